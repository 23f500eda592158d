import PyProof.Rows.All
import Wide.All
import OpenK.AllK
import Wide.FinOn
import HandS.ForMost
import HandS.ForExc
import HandS.Walk
import HandS.Deep
import HandS.Flow
import HandS.Style
import HandS.TryMany
import HandS.ExcInit
import HandS.ExcIs
import HandS.ExcField
import HandS.ExcValue
import HandS.Defaults
import HandS.Zip
import HandS.TupAny
import HandS.TupMul
import HandS.TupLe
import HandS.WideMore
import HandS.HeadHook1
import HandS.HeadHook2
import HandS.HeadEnd
import KE.KDictKeyed
import KE.KDictWalk
import KE.KeyNested
import KE.SortData
import KE.DataCmp
import HandS.SetFor
import KE.DataFind
import KE.DataMinMax
import KE.GoesEnum
import HandS.IsInst
import KE.KStateDown
import HandS.Head0
import HandS.Head1
import HandS.Head2
import PySem.Challenge.RW_handsarc_k01_whole_fits
set_option Elab.async false
set_option linter.all false
set_option maxRecDepth 100000
set_option maxHeartbeats 0
namespace Hx
open PySem (Str)
/-- data: what a Python value is, without addresses. town: the draws' list; scr: the script -/
inductive D where
  | non | bl (b : Bool) | int (i : Int) | str (x : Str)
  | tup (xs : List D) | lst (xs : List D) | dic (ks vs : List D)
  | exc (c : Str) (fs : List D) | town | scr (ns : List Int)
/-- how deep -/
def D.depth : D → Nat
  | .tup xs => deps xs + 1
  | .lst xs => deps xs + 1
  | .dic _ vs => deps vs + 1
  | _ => 0
where deps : List D → Nat
  | [] => 0
  | x :: xs => max x.depth (deps xs)
def b2i (b : Bool) : Int := if b then 1 else 0
/-- Python's == of plain data (None, bools, ints, texts, tuples, lists) -/
def D.eqv : D → D → Bool
  | .non, .non => true
  | .bl a, .bl b => a == b
  | .bl a, .int j => b2i a == j
  | .int i, .bl b => i == b2i b
  | .int i, .int j => i == j
  | .str x, .str y => x == y
  | .tup xs, .tup ys => eqvs xs ys
  | .lst xs, .lst ys => eqvs xs ys
  | _, _ => false
where eqvs : List D → List D → Bool
  | [], [] => true
  | x :: xs, y :: ys => x.eqv y && eqvs xs ys
  | _, _ => false
/-- made of None, bools, ints, texts, tuples, lists alone -/
def D.plain : D → Bool
  | .non | .bl _ | .int _ => true
  | .str x => PySem.PyData.strOk x
  | .tup xs => plains xs
  | .lst xs => plains xs
  | _ => false
where plains : List D → Bool
  | [] => true
  | x :: xs => x.plain && plains xs
/-- a dict's key: ints, texts, None, tuples of such -/
def D.keyed : D → Bool
  | .non | .int _ | .str _ => true
  | .tup xs => keyeds xs
  | _ => false
where keyeds : List D → Bool
  | [] => true
  | x :: xs => x.keyed && keyeds xs
/-- the two can be compared by < place by place -/
def D.alike : D → D → Bool
  | .non, .non => true
  | .bl _, .bl _ => true
  | .int _, .int _ => true
  | .str _, .str _ => true
  | .tup xs, .tup ys => alikes xs ys
  | .lst xs, .lst ys => alikes xs ys
  | _, _ => false
where alikes : List D → List D → Bool
  | x :: xs, y :: ys => x.alike y && alikes xs ys
  | [], _ => true
  | _ :: _, [] => true
/-- Python's < of alike data -/
def strLt (x y : Str) : Bool := decide (x.cps.toList < y.cps.toList)
def D.lt : D → D → Bool
  | .bl a, .bl b => !a && b
  | .int i, .int j => decide (i < j)
  | .str x, .str y => strLt x y
  | .tup xs, .tup ys => lts xs ys
  | .lst xs, .lst ys => lts xs ys
  | _, _ => false
where lts : List D → List D → Bool
  | [], [] => false
  | [], _ :: _ => true
  | _ :: _, [] => false
  | x :: xs, y :: ys => if x.eqv y then lts xs ys else x.lt y
inductive Bop where
  | add | sub | mul | fdiv | mod | pow
  deriving DecidableEq
inductive Cop where
  | eq | ne | lt | le | gt | ge | isn | nis | inn | nin
  deriving DecidableEq
inductive Ty where
  | int | bool | tuple | list | str | dict
  deriving DecidableEq
inductive Prim where
  | len | tuple | list | dict | sorted | all | any | sum | max | min | max2 | min2 | str | int
  | join | index | count | get1 | get2 | lset | sset
  deriving DecidableEq
/-- a target: a slot; a tuple of targets -/
inductive Tg where
  | v (i : Nat) | nil | cons (t r : Tg) | dr
/-- a call's argument: the n-th written one, or a default -/
inductive Sel where
  | at (n : Nat) | dfl (d : D)
/-- expressions; argument lists (nil, cons); what a for walks (irng ..); a comprehension's clauses (gfor .. gelt) -/
inductive E where
  | var (i : Nat) | cst (d : D) | glb (d : D)
  | tup (as : E) | lst (as : E) | dct (as : E)
  | bin (o : Bop) (a b : E) | neg (a : E) | not (a : E) | and (a b : E) | or (a b : E) | ife (c a b : E)
  | cmp (o : Cop) (a b : E) | chn (o p : Cop) (a b c : E)
  | call (f : Nat) (as : E) | calk (f : Nat) (as : E) (perm : List Sel)
  | prm (p : Prim) (as : E)
  | idx (a i : E) | slc (a lo hi : E) | rev (a : E)
  | comp (vs : List Nat) (g : E) | dcmp (vs : List Nat) (g : E)
  | isi (a : E) (t : Ty) | ise (a : E) (c : Str) | att (a : E) (x : Str)
  | mkt (a : E) | draw (t n : E)
  | nil | cons (a r : E)
  | lrng (as : E)
  | irng (as : E) | ienu (a : E) | izip (a b : E) | iit (a : E)
  | gfor (t : Tg) (it c r : E) | gelt (a : E) | gkv (k v : E)
inductive S where
  | skip | seq (a b : S)
  | asg (t : Tg) (e : E) | asgo (i n : Nat) (e : E)
  | par (i n j m : Nat) (a b : E)
  | setp (i : Nat) (p j e : E) | augp (i : Nat) (p j : E) (o : Bop) (e : E)
  | aug (i : Nat) (o : Bop) (e : E) | ext (i : Nat) (e : E) | dor (i : Nat) (e : E)
  | app (i : Nat) (p e : E) | pop (t : Tg) (i : Nat) (p j : E) | sdf (i : Nat) (p k e : E) | ins (i : Nat) (p j e : E)
  | xpr (e : E)
  | ite (c : E) (a b : S) | fr (t : Tg) (it : E) (b : S) | whl (c : E) (b : S)
  | ret (e : E) | retn | rai (c : Str) (as : E)
  | tri (b h : S) | hnd (c : Str) (i : Nat) (b r : S)
  | cio (t : Tg) (f : Nat) (as : E)
/-- a def: how many parameters, how many slots, to what depth its result is new; parameters handed in to be changed (slot, depth) -/
structure Fn where
  ar : Nat
  sl : Nat
  rd : Nat := 0
  io : List (Nat × Nat) := []
  body : S
inductive Sl where
  | un | fz (d : D) | ow (n : Nat) (d : D)
abbrev Wd := Option (List Int × Int)
structure St where
  env : List Sl
  w : Wd
inductive Res (α : Type) where
  | ok (a : α) (s : St) | exc (c : Str) (fs : List D) (s : St) | stuck
@[simp] def Res.bind {α β : Type} (r : Res α) (f : α → St → Res β) : Res β := match r with
  | .ok a s => f a s
  | .exc c fs s => .exc c fs s
  | .stuck => .stuck
inductive Flow where
  | nx | rt (d : D)
inductive RW where
  | ok (d : D) (outs : List D) (w : Wd) | exc (c : Str) (fs : List D) (w : Wd) | stuck
@[simp] def opt {α : Type} (o : Option α) (s : St) : Res α := match o with
  | some a => .ok a s
  | none => .stuck
def line : Nat := 16777216
/-- a place as Python has it -/
def ixP (n : Nat) (i : Int) : Option Nat :=
  if 0 ≤ i then (if i.toNat < n then some i.toNat else none) else if 0 ≤ i + n then some (i + n).toNat else none
/-- a slice's end -/
def clampP (n : Nat) (i : Int) : Nat := if 0 ≤ i then min i.toNat n else (i + n).toNat
def cutL {α : Type} (xs : List α) (lo hi : Option Int) : List α :=
  let a := (lo.map (clampP xs.length)).getD 0
  let b := (hi.map (clampP xs.length)).getD xs.length
  (xs.drop a).take (b - a)
def slcD : D → Option Int → Option Int → Option D
  | .lst xs, l, h => some (.lst (cutL xs l h))
  | .tup xs, l, h => some (.tup (cutL xs l h))
  | .str z, l, h => if z.cps.size ≤ line then some (.str ⟨(cutL z.cps.toList l h).toArray⟩) else none
  | _, _, _ => none
def revD : D → Option D
  | .lst xs => some (.lst xs.reverse)
  | _ => none
def keyAt : List D → D → Option Nat
  | [], _ => none
  | k :: ks, d => if k.eqv d then some 0 else (keyAt ks d).map (· + 1)
/-- whether a dict with such keys may be asked for k -/
def isTup : D → Bool
  | .tup _ => true
  | _ => false
def kfit (ks : List D) (k : D) : Bool := k.keyed && decide (k.depth ≤ 8) && (match ks with
  | [] => true
  | k0 :: _ => isTup k0 == isTup k)
def D.getI : D → D → Option D
  | .tup xs, .int i => (ixP xs.length i).bind fun j => xs[j]?
  | .lst xs, .int i => (ixP xs.length i).bind fun j => xs[j]?
  | .str x, .int i => if x.cps.size ≤ line then (ixP x.cps.size i).bind fun j => x.cps.toList[j]?.map fun c => .str ⟨#[c]⟩ else none
  | _, _ => none
def D.setI : D → D → D → Option D
  | .lst xs, .int i, v => (ixP xs.length i).map fun j => .lst (xs.set j v)
  | _, _, _ => none
def small (i : Int) : Bool := decide (-(2 ^ 64) < i ∧ i < 2 ^ 64)
def repL {α : Type} (xs : List α) (n : Nat) : List α := (List.replicate n xs).flatten
def binD : Bop → D → D → Option D
  | .add, .int i, .int j => some (.int (i + j))
  | .add, .str x, .str y => if x.length + y.length ≤ line then some (.str (x ++ y)) else none
  | .add, .lst xs, .lst ys => if xs.length + ys.length ≤ line then some (.lst (xs ++ ys)) else none
  | .add, .tup xs, .tup ys => if xs.length + ys.length ≤ line then some (.tup (xs ++ ys)) else none
  | .sub, .int i, .int j => some (.int (i - j))
  | .mul, .int i, .int j => if small i || small j then some (.int (i * j)) else none
  | .mul, .lst xs, .int j => if decide (j < 2 ^ 62) && decide (-(2 ^ 62) < j) && decide (xs.length * j.toNat ≤ line) then some (.lst (repL xs j.toNat)) else none
  | .mul, .tup xs, .int j => if decide (0 ≤ j) && decide (j ≤ 1000) && decide (xs.length ≤ 1000) then some (.tup (repL xs j.toNat)) else none
  | .fdiv, .int i, .int j => if 0 < j ∧ j < 1073741824 then some (.int (i / j)) else none
  | .mod, .int i, .int j => if 0 < j then some (.int (i % j)) else none
  | .pow, .int i, .int j => if 0 ≤ j ∧ j ≤ 1000000 ∧ i.natAbs < 2 ^ 64 then some (.int (i ^ j.toNat)) else none
  | _, _, _ => none
/-- op= of numbers and texts -/
def ipD : Bop → D → D → Option D
  | .add, .int i, .int j => some (.int (i + j))
  | .add, .str x, .str y => if x.length + y.length ≤ line then some (.str (x ++ y)) else none
  | .sub, .int i, .int j => some (.int (i - j))
  | .mul, .int i, .int j => if small i || small j then some (.int (i * j)) else none
  | .fdiv, .int i, .int j => if 0 < j ∧ j < 1073741824 then some (.int (i / j)) else none
  | .mod, .int i, .int j => if 0 < j then some (.int (i % j)) else none
  | _, _, _ => none
def memD (x : D) : List D → Bool
  | [] => false
  | y :: ys => y.eqv x || memD x ys
def okEq (a : D) : Bool := a.plain && decide (a.depth ≤ 60)
def isNon : D → Bool
  | .non => true
  | _ => false
def ordOk (a b : D) : Bool := okEq a && okEq b && a.alike b && !isNon a
def cmpD : Cop → D → D → Option Bool
  | .eq, a, b => if okEq a && okEq b then some (a.eqv b) else none
  | .ne, a, b => if okEq a && okEq b then some (!a.eqv b) else none
  | .lt, a, b => if ordOk a b then some (a.lt b) else none
  | .gt, a, b => if ordOk a b then some (b.lt a) else none
  | .le, a, b => if ordOk a b then some (!b.lt a) else none
  | .ge, a, b => if ordOk a b then some (!a.lt b) else none
  | .isn, .non, .non => some true
  | .isn, _, .non => some false
  | .isn, .bl a, .bl b => some (a == b)
  | .nis, .non, .non => some false
  | .nis, _, .non => some true
  | .nis, .bl a, .bl b => some (!(a == b))
  | .inn, x, .lst ys => if okEq x && okEq (.lst ys) then some (memD x ys) else none
  | .inn, .str x, .str y => if x.cps.size = 1 then some (decide (x.cps.getD 0 0 ∈ y.cps.toList)) else none
  | .nin, x, .lst ys => if okEq x && okEq (.lst ys) then some (!memD x ys) else none
  | .nin, .str x, .str y => if x.cps.size = 1 then some (!decide (x.cps.getD 0 0 ∈ y.cps.toList)) else none
  | _, _, _ => none
def isiD : Ty → D → Option Bool
  | _, .town => none
  | _, .scr _ => none
  | _, .exc _ _ => none
  | _, .dic _ _ => none
  | t, d => some (match t, d with
    | .int, .int _ => true
    | .int, .bl _ => true
    | .bool, .bl _ => true
    | .tuple, .tup _ => true
    | .list, .lst _ => true
    | .str, .str _ => true
    | _, _ => false)
def truth : D → Option Bool
  | .non => some false
  | .bl b => some b
  | .int i => some (i != 0)
  | _ => none
def intsD : List D → Option (List Int)
  | [] => some []
  | .int i :: r => (intsD r).map (i :: ·)
  | _ => none
def bools : List D → Option (List Bool)
  | [] => some []
  | .bl b :: r => (bools r).map (b :: ·)
  | _ => none
/-- sorted, equal ones in their order -/
def insS (x : D) : List D → List D
  | [] => [x]
  | y :: ys => if y.lt x then y :: insS x ys else x :: y :: ys
def sortD : List D → List D
  | [] => []
  | x :: xs => insS x (sortD xs)
/-- one like all -/
def allAlike (xs : List D) : Bool := xs.all fun a => okEq a && xs.all fun b => a.alike b
def nonEmptyTup : D → Bool
  | .tup (_ :: _) => true
  | _ => false
def noTup : D → Bool
  | .tup _ => false
  | .non => false
  | _ => true
def sortable (xs : List D) : Bool := allAlike xs && (xs.all nonEmptyTup || xs.all noTup)
def seqD : D → Option (List D)
  | .tup xs => some xs
  | .lst xs => some xs
  | _ => none
/-- what a for finds -/
def iterD : D → Option (List D)
  | .tup xs => some xs
  | .lst xs => some xs
  | .str x => some (x.cps.toList.map fun c => .str ⟨#[c]⟩)
  | _ => none
def leastD : D → List D → D
  | m, [] => m
  | m, x :: xs => leastD (if x.lt m then x else m) xs
def greatD : D → List D → D
  | m, [] => m
  | m, x :: xs => greatD (if m.lt x then x else m) xs
def dedupD : List D → List D → List D
  | acc, [] => acc
  | acc, x :: xs => dedupD (if memD x acc then acc else acc ++ [x]) xs
def strsD : List D → Option (List Str)
  | [] => some []
  | .str x :: r => (strsD r).map (x :: ·)
  | _ => none
def joinS (sep : Str) : List Str → Str
  | [] => ⟨#[]⟩
  | [x] => x
  | x :: r => x ++ sep ++ joinS sep r
def lenD : List D → Option D
  | [.tup xs] => some (.int xs.length)
  | [.lst xs] => some (.int xs.length)
  | [.str x] => if x.length ≤ line then some (.int x.length) else none
  | _ => none
def tupleD : List D → Option D
  | [.tup xs] => some (.tup xs)
  | [.lst xs] => some (.tup xs)
  | _ => none
def listD : List D → Option D
  | [.tup xs] => some (.lst xs)
  | [.lst xs] => some (.lst xs)
  | _ => none
def sortedD : List D → Option D
  | [.tup xs] => if sortable xs then some (.lst (sortD xs)) else none
  | [.lst xs] => if sortable xs then some (.lst (sortD xs)) else none
  | _ => none
def allD : List D → Option D
  | [.lst xs] => (bools xs).map fun bs => .bl (bs.all id)
  | _ => none
def anyD : List D → Option D
  | [.lst xs] => (bools xs).map fun bs => .bl (bs.any id)
  | _ => none
def sumD : List D → Option D
  | [.lst xs] => (intsD xs).map fun ns => .int ns.sum
  | _ => none
def mxD : List D → Option D
  | [a] => (seqD a).bind fun xs => if allAlike xs && xs.all (fun d => !isNon d) then (match xs with
    | x :: r => some (greatD x r)
    | [] => none) else none
  | _ => none
def mnD : List D → Option D
  | [a] => (seqD a).bind fun xs => if allAlike xs && xs.all (fun d => !isNon d) then (match xs with
    | x :: r => some (leastD x r)
    | [] => none) else none
  | _ => none
def max2D : List D → Option D
  | [.int i, .int j] => some (.int (if j > i then j else i))
  | _ => none
def min2D : List D → Option D
  | [.int i, .int j] => some (.int (if j < i then j else i))
  | _ => none
def strD : List D → Option D
  | [.int i] => if i.natAbs.log2 < 1920 then some (.str (toString i)) else none
  | _ => none
def joinD : List D → Option D
  | [.str sep, a] => (seqD a).bind fun xs => (strsD xs).bind fun ys => if (ys.map Str.length).sum + ys.length * sep.length ≤ line then some (.str (joinS sep ys)) else none
  | _ => none
def indexD : List D → Option D
  | [.lst xs, y] => if okEq (.lst xs) && okEq y then (xs.findIdx? (fun x => x.eqv y)).map fun (j : Nat) => .int j else none
  | _ => none
def countD : List D → Option D
  | [.lst xs, y] => if okEq (.lst xs) && okEq y then some (.int (xs.countP fun x => x.eqv y)) else none
  | [.tup xs, y] => if okEq (.tup xs) && okEq y then some (.int (xs.countP fun x => x.eqv y)) else none
  | _ => none
def primD (p : Prim) (ds : List D) : Option D := match p with
  | .len => lenD ds
  | .tuple => tupleD ds
  | .list => listD ds
  | .sorted => sortedD ds
  | .all => allD ds
  | .any => anyD ds
  | .sum => sumD ds
  | .max => mxD ds
  | .min => mnD ds
  | .max2 => max2D ds
  | .min2 => min2D ds
  | .str => strD ds
  | .join => joinD ds
  | .index => indexD ds
  | .count => countD ds
  | _ => none
/-- how deep a built-in looks at what it is handed (what lies deeper may be handed on) -/
def Prim.look : Prim → List Nat
  | .len | .index | .count | .lset | .all | .any | .sum | .str | .int | .join => [99, 99]
  | .get1 | .get2 => [1, 0, 0]
  | .max2 | .min2 => [0, 0]
  | _ => [1]
def rangeL (lo hi st : Int) : Option (List D) :=
  if decide (lo.natAbs < 2 ^ 62) && decide (hi.natAbs < 2 ^ 62) then
    (if st = 1 then some ((List.range (hi - lo).toNat).map fun (j : Nat) => .int (lo + (j : Int)))
    else if st = -1 then some ((List.range (lo - hi).toNat).map fun (j : Nat) => .int (lo - (j : Int))) else none)
  else none
def rangeD : List D → Option (List D)
  | [.int n] => rangeL 0 n 1
  | [.int a, .int b] => rangeL a b 1
  | [.int a, .int b, .int c] => rangeL a b c
  | _ => none
def enumL : Nat → List D → List D
  | _, [] => []
  | n, x :: xs => .tup [.int n, x] :: enumL (n + 1) xs
def zipL : List D → List D → List D
  | x :: xs, y :: ys => .tup [x, y] :: zipL xs ys
  | _, _ => []
def drawW : Wd → Int → Option (Int × Wd)
  | none, _ => none
  | some (ns, c), n =>
    if 0 < n ∧ n < 1073741824 then
      (match ns[((c + 1) % (ns.length : Int)).toNat]? with
      | none => none
      | some cell =>
        if 1000000000000000000 ≤ cell then some (cell % n, some (ns.set ((c + 1) % (ns.length : Int)).toNat (cell / n), c + 1))
        else
          let m := ((cell + 104729 * (c + 1)) % 4294967291) ^ 5 % 4294967279
          some ((m / 64 * 69621 + m) % 4294967231 / 8 % n, some (ns, c + 1)))
    else none
def stTg : Tg → D → List Sl → Option (List Sl)
  | .v i, d, env => some (env.set i (.fz d))
  | .nil, .tup [], env => some env
  | .dr, _, env => some env
  | .cons t r, .tup (x :: xs), env => (stTg t x env).bind fun e1 => stTg r (.tup xs) e1
  | _, _, _ => none
def updP (f : D → Option D) : List D → D → Option D
  | [], d => f d
  | i :: p, .lst xs => ((D.lst xs).getI i).bind fun x => (updP f p x).bind fun y => (D.lst xs).setI i y
  | _ :: _, _ => none
def getP : List D → D → Option D
  | [], d => some d
  | i :: p, .lst xs => ((D.lst xs).getI i).bind fun x => getP p x
  | _ :: _, _ => none
def dep (rd : Nat → Nat) : E → Nat
  | .var _ => 0
  | .idx _ _ => 0
  | .att _ _ => 0
  | .lst as => 1 + dep rd as
  | .dct as => 1 + dep rd as
  | .cons a r => min (dep rd a) (dep rd r)
  | .nil => 99
  | .bin _ _ _ => 1
  | .and a b => min (dep rd a) (dep rd b)
  | .or a b => min (dep rd a) (dep rd b)
  | .ife _ a b => min (dep rd a) (dep rd b)
  | .call f _ => rd f
  | .calk f _ _ => rd f
  | .prm p _ => (match p with
    | .len | .tuple | .all | .any | .sum | .str | .int | .join | .index | .count | .lset => 99
    | .list | .dict | .sorted | .sset => 1
    | _ => 0)
  | .slc _ _ _ => 1
  | .rev _ => 1
  | .lrng _ => 99
  | .comp _ g => 1 + dep rd g
  | .dcmp _ g => 1 + dep rd g
  | .gfor _ _ _ r => dep rd r
  | .gelt a => dep rd a
  | .gkv _ v => dep rd v
  | _ => 99
def forR (f : D → St → Res Flow) : List D → St → Res Flow
  | [], s => .ok .nx s
  | d :: ds, s => (f d s).bind fun fl s1 => match fl with
    | .nx => forR f ds s1
    | .rt v => .ok (.rt v) s1
def whileR (c : St → Res Bool) (b : St → Res Flow) : Nat → St → Res Flow
  | 0, _ => .stuck
  | n + 1, s => (c s).bind fun t s1 => if t then (b s1).bind fun fl s2 => (match fl with
    | .nx => whileR c b n s2
    | .rt v => .ok (.rt v) s2) else .ok .nx s1
def compR (f : D → List D → St → Res (List D)) : List D → List D → St → Res (List D)
  | [], acc, s => .ok acc s
  | d :: ds, acc, s => (f d acc s).bind fun acc1 s1 => compR f ds acc1 s1
def unsl (vs : List Nat) (env : List Sl) : List Sl := vs.foldl (fun e i => e.set i .un) env
/-- behind a comprehension: its own names are what they were -/
def backsl (vs : List Nat) (old new : List Sl) : List Sl := vs.foldl (fun e i => match old[i]? with
  | some x => e.set i x
  | none => e) new
def noExc {α : Type} : Res α → Res α
  | .exc _ _ _ => .stuck
  | r => r
def selA (ds : List D) : List Sel → Option (List D)
  | [] => some []
  | .at n :: r => (ds[n]?).bind fun d => (selA ds r).map (d :: ·)
  | .dfl d :: r => (selA ds r).map (d :: ·)
def pairsL : List D → Option (List D × List D)
  | [] => some ([], [])
  | k :: v :: r => (pairsL r).map fun (ks, vs) => (k :: ks, v :: vs)
  | _ => none
def putAll : List D → List D → D → Option D
  | k :: ks, v :: vs, d => (d.setI k v).bind fun d1 => putAll ks vs d1
  | [], [], d => some d
  | _, _, _ => none
def ofRW (r : RW) (s : St) : Res D := match r with
  | .ok d _ w => .ok d { s with w := w }
  | .exc c fs w => .exc c fs { s with w := w }
  | .stuck => .stuck
abbrev Sem := Nat → List D → Wd → RW
section
variable (sem : Sem)
mutual
/-- an expression's value; k: what lies k levels deep may be handed on (0: the value itself) -/
def ev : E → Nat → St → Res D
  | .var i, k, s => (match s.env[i]? with
    | some (.fz d) => .ok d s
    | some (.ow n d) => if n ≤ k then .ok d s else .ok d { s with env := s.env.set i (.fz d) }
    | _ => .stuck)
  | .cst d, _, s => .ok d s
  | .glb d, _, s => .ok d s
  | .tup as, _, s => (evA as s).bind fun ds s => .ok (.tup ds) s
  | .lst as, _, s => (evA as s).bind fun ds s => .ok (.lst ds) s
  | .dct as, _, s => (evA as s).bind fun ds s => opt ((pairsL ds).bind fun kv => putAll kv.1 kv.2 (.dic [] [])) s
  | .bin o a b, _, s => (ev a 1 s).bind fun x s => (ev b 1 s).bind fun y s => opt (binD o x y) s
  | .neg a, _, s => (ev a 99 s).bind fun x s => (match x with
    | .int i => .ok (.int (-i)) s
    | _ => .stuck)
  | .not a, _, s => (ev a 99 s).bind fun x s => (match x with
    | .bl b => .ok (.bl (!b)) s
    | _ => .stuck)
  | .and a b, k, s => (ev a 99 s).bind fun x s => (match x with
    | .bl c => if c then ev b k s else .ok (.bl false) s
    | _ => .stuck)
  | .or a b, k, s => (ev a 99 s).bind fun x s => (match x with
    | .bl c => if c then .ok (.bl true) s else ev b k s
    | _ => .stuck)
  | .ife c a b, k, s => (ev c 99 s).bind fun x s => (match x with
    | .bl t => if t then ev a k s else ev b k s
    | _ => .stuck)
  | .cmp o a b, _, s => (ev a 99 s).bind fun x s => (ev b 99 s).bind fun y s => opt ((cmpD o x y).map .bl) s
  | .chn o p a b c, _, s => (ev a 99 s).bind fun x s => (ev b 99 s).bind fun y s => (opt (cmpD o x y) s).bind fun t s =>
    if t then (ev c 99 s).bind fun z s => opt ((cmpD p y z).map .bl) s else .ok (.bl false) s
  | .call f as, _, s => (evA as s).bind fun ds s => ofRW (sem f ds s.w) s
  | .calk f as perm, _, s => (evA as s).bind fun ds s => (opt (selA ds perm) s).bind fun ds s => ofRW (sem f ds s.w) s
  | .prm p as, _, s => (evP as p.look s).bind fun ds s => opt (primD p ds) s
  | .lrng as, _, s => (evA as s).bind fun ds s => opt ((rangeD ds).map .lst) s
  | .idx a i, k, s => (ev a (k + 1) s).bind fun x s => (ev i 99 s).bind fun j s => opt (x.getI j) s
  | .slc a lo hi, _, s => (ev a 1 s).bind fun x s => (evO lo s).bind fun l s => (evO hi s).bind fun h s => opt (slcD x l h) s
  | .rev a, _, s => (ev a 1 s).bind fun x s => opt (revD x) s
  | .comp vs (.gfor t it c r), _, s => (evI it { s with env := unsl vs s.env }).bind fun ds s0 =>
    (noExc (compR (fun d acc s => (opt (stTg t d s.env) s).bind fun env s =>
      (ev c 99 { s with env := env }).bind fun b s => (match b with
        | .bl b => if b then evG r acc s else .ok acc s
        | _ => .stuck)) ds [] { s0 with env := unsl vs s0.env })).bind fun ds s1 => .ok (.lst ds) { s1 with env := backsl vs s.env s1.env }
  | .dcmp vs (.gfor t it c r), _, s => (evI it { s with env := unsl vs s.env }).bind fun ds s0 =>
    (noExc (compR (fun d acc s => (opt (stTg t d s.env) s).bind fun env s =>
      (ev c 99 { s with env := env }).bind fun b s => (match b with
        | .bl b => if b then evG r acc s else .ok acc s
        | _ => .stuck)) ds [.dic [] []] { s0 with env := unsl vs s0.env })).bind fun ds s1 => (match ds with
    | [d] => .ok d { s1 with env := backsl vs s.env s1.env }
    | _ => .stuck)
  | .isi a t, _, s => (ev a 99 s).bind fun x s => opt ((isiD t x).map .bl) s
  | .mkt a, _, s => (ev a 99 s).bind fun x s => (match x, s.w with
    | .scr ns, none => if ns.length ≤ 63 then .ok .town { s with w := some (if ns = [] then [0] else ns, 0) } else .stuck
    | _, _ => .stuck)
  | .draw t n, _, s => (ev t 99 s).bind fun x s => (ev n 99 s).bind fun y s => (match x, y with
    | .town, .int i => (opt (drawW s.w i) s).bind fun r s => .ok (.int r.1) { s with w := r.2 }
    | _, _ => .stuck)
  | _, _, _ => .stuck
/-- an argument list -/
def evA : E → St → Res (List D)
  | .nil, s => .ok [] s
  | .cons a r, s => (ev a 0 s).bind fun d s => (evA r s).bind fun ds s => .ok (d :: ds) s
  | _, _ => .stuck
/-- a built-in's arguments -/
def evP : E → List Nat → St → Res (List D)
  | .nil, _, s => .ok [] s
  | .cons a r, ks, s => (ev a (ks.headD 0) s).bind fun d s => (evP r ks.tail s).bind fun ds s => .ok (d :: ds) s
  | _, _, _ => .stuck
/-- a slice's end -/
def evO : E → St → Res (Option Int)
  | .nil, s => .ok none s
  | .cons a _, s => (ev a 99 s).bind fun x s => (match x with
    | .int i => .ok (some i) s
    | _ => .stuck)
  | _, _ => .stuck
/-- what a for walks -/
def evI : E → St → Res (List D)
  | .irng as, s => (evA as s).bind fun ds s => opt (rangeD ds) s
  | .ienu a, s => (ev a 0 s).bind fun x s => opt ((seqD x).map (enumL 0)) s
  | .izip a b, s => (ev a 0 s).bind fun x s => (ev b 0 s).bind fun y s => opt ((seqD x).bind fun xs => (seqD y).map fun ys => zipL xs ys) s
  | .iit a, s => (ev a 0 s).bind fun x s => opt (iterD x) s
  | _, _ => .stuck
/-- a comprehension's clauses, onto what is made so far -/
def evG : E → List D → St → Res (List D)
  | .gelt a, acc, s => (ev a 0 s).bind fun d s => if acc.length < line then .ok (acc ++ [d]) s else .stuck
  | .gkv k v, acc, s => (ev k 0 s).bind fun x s => (ev v 0 s).bind fun y s => (match acc with
    | [d] => opt ((d.setI x y).map fun d => [d]) s
    | _ => .stuck)
  | .gfor t it c r, acc, s => (evI it s).bind fun ds s =>
    compR (fun d acc s => (opt (stTg t d s.env) s).bind fun env s =>
      (ev c 99 { s with env := env }).bind fun b s => (match b with
        | .bl b => if b then evG r acc s else .ok acc s
        | _ => .stuck)) ds acc s
  | _, _, _ => .stuck
end
def Sl.own? : Option Sl → Option (Nat × D)
  | some (.ow n d) => some (n, d)
  | _ => none
/-- the path acc leads somewhere in what slot i owns -/
def okN (i : Nat) (acc : List D) (s : St) : Bool := match Sl.own? s.env[i]? with
  | some nd => decide (acc.length < nd.1) && (getP acc nd.2).isSome
  | none => false
/-- .. to a list -/
def okL (i : Nat) (acc : List D) (s : St) : Bool := match Sl.own? s.env[i]? with
  | some nd => decide (acc.length < nd.1) && (match getP acc nd.2 with
    | some (.lst _) => true
    | _ => false)
  | none => false
/-- the number or text at a place of an owned list -/
def atN (i : Nat) (acc : List D) (k : D) (s : St) : Option D := match Sl.own? s.env[i]? with
  | some nd => if acc.length < nd.1 then (getP acc nd.2).bind fun d => (d.getI k).bind fun y => (match d, y with
    | .lst _, .int n => some (.int n)
    | .lst _, .str x => some (.str x)
    | _, _ => none) else none
  | none => none
/-- a path's indexes -/
def evN (i : Nat) : E → List D → St → Res (List D)
  | .nil, acc, s => if okN i acc s then .ok acc s else .stuck
  | .cons a r, acc, s => if okN i acc s then (ev sem a 0 s).bind fun d s => evN i r (acc ++ [d]) s else .stuck
  | _, _, _ => .stuck
/-- the thing at a path of the slot i is changed; m: how deep what is put in is new (none: it is a scalar) -/
def chg (i : Nat) (p : List D) (m : Nat) (f : D → Option D) (s : St) : Res Unit :=
  (opt (Sl.own? s.env[i]?) s).bind fun nd s =>
    if p.length < nd.1 ∧ nd.1 ≤ p.length + 1 + m then (opt (updP f p nd.2) s).bind fun d s => .ok () { s with env := s.env.set i (.ow nd.1 d) } else .stuck
def appD (x : D) : D → Option D
  | .lst xs => if xs.length < line then some (.lst (xs ++ [x])) else none
  | _ => none
def insD (j : Int) (x : D) : D → Option D
  | .lst xs => if xs.length < line ∧ 0 ≤ j ∧ j ≤ xs.length then some (.lst (xs.take j.toNat ++ x :: xs.drop j.toNat)) else none
  | _ => none
def sdfD (k x : D) : D → Option D
  | .dic ks vs => (match (D.dic ks vs).getI k with
    | some _ => some (.dic ks vs)
    | none => (D.dic ks vs).setI k x)
  | _ => none
def popD : Option D → D → Option (D × D)
  | none, .lst xs => (xs[xs.length - 1]?).map fun x => (x, .lst (xs.eraseIdx (xs.length - 1)))
  | some (.int i), .lst xs => if decide (-(2 ^ 62) ≤ i) && decide (i < 2 ^ 62) then (ixP xs.length i).bind fun j => (xs[j]?).map fun x => (x, .lst (xs.eraseIdx j)) else none
  | _, _ => none
def unFl : Unit → Flow := fun _ => .nx
def fuel : Nat := 1000000
def scaD : D → Bool
  | .int _ | .bl _ | .str _ | .non => true
  | _ => false
def ex (rd : Nat → Nat) : S → St → Res Flow
  | .skip, s => .ok .nx s
  | .seq a b, s => (ex rd a s).bind fun fl s => (match fl with
    | .nx => ex rd b s
    | .rt d => .ok (.rt d) s)
  | .asg t e, s => (ev sem e 0 s).bind fun d s => (opt (stTg t d s.env) s).bind fun env s => .ok .nx { s with env := env }
  | .asgo i n e, s => (ev sem e 0 s).bind fun d s => if n ≤ dep rd e ∧ 0 < n then .ok .nx { s with env := s.env.set i (.ow n d) } else .stuck
  | .par i n j m a b, s => (evA sem (.cons a (.cons b .nil)) s).bind fun ds s => (match ds with
    | [x, y] => if n ≤ dep rd a ∧ n ≤ dep rd b ∧ n = m then .ok .nx { s with env := (s.env.set i (if n = 0 then .fz x else .ow n x)).set j (if n = 0 then .fz y else .ow n y) } else .stuck
    | _ => .stuck)
  | .setp i p j e, s => (ev sem e 0 s).bind fun x s => (evN sem i p [] s).bind fun p' s => (ev sem j 0 s).bind fun k s =>
    (chg i p' (dep rd e) (fun d => d.setI k x) s).bind fun _ s => .ok .nx s
  | .augp i p j o e, s => (evN sem i p [] s).bind fun p' s => if okL i p' s then (ev sem j 0 s).bind fun k s =>
    (opt (atN i p' k s) s).bind fun y s => (ev sem e 1 s).bind fun x s => (opt (ipD o y x) s).bind fun z s =>
    (chg i p' 99 (fun d => d.setI k z) s).bind fun _ s => .ok .nx s else .stuck
  | .aug i o e, s => (match s.env[i]? with
    | some (.fz d) => (ev sem e 1 s).bind fun x s => (opt (ipD o d x) s).bind fun z s => .ok .nx { s with env := s.env.set i (.fz z) }
    | _ => .stuck)
  | .ext i e, s => (ev sem e 1 s).bind fun x s => (match x with
    | .lst ys => (chg i [] (dep rd e - 1) (fun d => match d with
      | .lst xs => if xs.length + ys.length ≤ line then some (.lst (xs ++ ys)) else none
      | _ => none) s).bind fun _ s => .ok .nx s
    | _ => .stuck)
  | .dor i e, s => (ev sem e 1 s).bind fun x s => (match x with
    | .dic ks vs => (chg i [] 0 (putAll ks vs) s).bind fun _ s => .ok .nx s
    | _ => .stuck)
  | .app i p e, s => (evN sem i p [] s).bind fun p' s => if okL i p' s then (ev sem e 0 s).bind fun x s =>
    (chg i p' (dep rd e) (appD x) s).bind fun _ s => .ok .nx s else .stuck
  | .ins i p j e, s => (evN sem i p [] s).bind fun p' s => (ev sem j 99 s).bind fun k s => (ev sem e 0 s).bind fun x s => (match k with
    | .int k => (chg i p' (dep rd e) (insD k x) s).bind fun _ s => .ok .nx s
    | _ => .stuck)
  | .sdf i p k e, s => (evN sem i p [] s).bind fun p' s => (ev sem k 0 s).bind fun y s => (ev sem e 0 s).bind fun x s =>
    (chg i p' (dep rd e) (sdfD y x) s).bind fun _ s => .ok .nx s
  | .pop t i p j, s => (evN sem i p [] s).bind fun p' s => if okL i p' s then (evA sem j s).bind fun js s =>
    (opt (Sl.own? s.env[i]?) s).bind fun nd s => if p'.length < nd.1 then
      (opt ((getP p' nd.2).bind (popD js.head?)) s).bind fun xr s =>
      (opt (updP (fun d => (popD js.head? d).map (·.2)) p' nd.2) s).bind fun d s => (opt (stTg t xr.1 (s.env.set i (.ow nd.1 d))) s).bind fun env s => .ok .nx { s with env := env } else .stuck else .stuck
  | .xpr e, s => (ev sem e 0 s).bind fun _ s => .ok .nx s
  | .ite c a b, s => (ev sem c 99 s).bind fun x s => (match x with
    | .bl t => if t then ex rd a s else ex rd b s
    | _ => .stuck)
  | .fr t it b, s => (evI sem it s).bind fun ds s => forR (fun d s => (opt (stTg t d s.env) s).bind fun env s => ex rd b { s with env := env }) ds s
  | .whl c b, s => whileR (fun s => (ev sem c 99 s).bind fun x s => (match x with
    | .bl t => .ok t s
    | _ => .stuck)) (ex rd b) fuel s
  | .ret e, s => (ev sem e 0 s).bind fun d s => .ok (.rt d) s
  | .retn, s => .ok (.rt .non) s
  | .rai c as, s => (evA sem as s).bind fun ds s => .exc c ds s
  | _, _ => .stuck
end
/-- a def's run -/
def run (rd : Nat → Nat) (sem : Sem) (fn : Fn) (ds : List D) (w : Wd) : RW :=
  if ds.length = fn.ar then
    (match ex sem rd fn.body ⟨(ds.zipIdx.map fun (d, i) => match fn.io.lookup i with
      | some n => .ow n d
      | none => .fz d) ++ List.replicate (fn.sl - fn.ar) .un, w⟩ with
    | .ok (.rt d) s => .ok d [] s.w
    | .ok .nx s => .ok .non [] s.w
    | .exc c fs s => .exc c fs s.w
    | .stuck => .stuck)
  else .stuck
end Hx
namespace Hx
open PySem PySem.Spec PyProof.Rows L2
/-- one entry: its hash, key, value -/
abbrev En := Int × V × V
def EnR (x : En) (e : DictEntry) : Prop := e.hash = x.1 ∧ RelV x.2.1 e.key ∧ RelV x.2.2 e.val
def DO (a : Addr) (xs : List En) : HO := .ext fun h => (a == sysModules) = false ∧ xs.length ≤ sizeLine ∧ ∃ o es ep, h.get? a = some o ∧ o.ExactDict ∧ o.data = .dict es ep ∧ Paired EnR xs es.toList
def XO (c a : Addr) : HO := .ext fun h => ∃ o vs, h.get? a = some o ∧ o.cls = .ref c ∧ o.data = .fields vs
/-- a list of the module's own -/
def SqK (K : PySem.W.Frag) (a : Addr) (xs : List V) : Prop := ∃ (o : Obj) (its : Array Value) (n : Nat), K.lookup a = some o ∧ o.cls = .type "list" ∧ o.dict = none ∧ o.data = .seq its n ∧ its.size ≤ sizeLine ∧ Vals xs its.toList
/-- a key as the library has it -/
def D.key : D → NestedKey
  | .int i => .num i
  | .bl b => .num (b2i b)
  | .str x => .text x
  | .tup xs => .tup (keys xs)
  | _ => .none
where keys : List D → List NestedKey
  | [] => []
  | x :: xs => x.key :: keys xs
/-- a dict's keys: of one sort, each once -/
structure KOk (ks : List D) : Prop where
  fit : ∀ k ∈ ks, k.keyed = true ∧ k.depth ≤ 8
  nd : (ks.map D.key).Nodup
  one : ∀ k ∈ ks, ∀ j ∈ ks, isTup k = isTup j
/-- Z: what is never changed again; F: what the world owns; t: where the draws' list stands -/
structure Gs where
  Z : Addr → Prop
  F : Addr → Prop
  t : Addr → Prop
section
variable (K : PySem.W.Frag) (w : World) (C : Str → Addr)
/-- v is the data d; what lies n levels deep or deeper is never changed again -/
def Val (H : Hp) (G : Gs) : D → Nat → V → Prop
  | .non, _, v => v = .non
  | .bl b, _, v => v = .bl b
  | .int i, _, v => v = .int i
  | .str x, _, v => v = .str x
  | .tup xs, _, v => ∃ a vs, v = .ref a ∧ H a = some (.tup vs) ∧ Vals' xs 0 vs
  | .lst xs, n, v => ∃ a vs, v = .ref a ∧ H a = some (.lst vs) ∧ ¬ G.F a ∧ (n = 0 → G.Z a) ∧ Vals' xs (n - 1) vs
  | .dic ks ws, n, v => ∃ a es, v = .ref a ∧ H a = some (DO a es) ∧ ¬ G.F a ∧ (n = 0 → G.Z a) ∧ KOk ks ∧ es.map (·.1) = ks.map (fun k => k.key.hash w) ∧ Vals' ks 0 (es.map (·.2.1)) ∧ Vals' ws (n - 1) (es.map (·.2.2))
  | .exc c _, _, v => ∃ a, v = .ref a ∧ H a = some (XO (C c) a) ∧ G.Z a
  | .town, _, v => ∃ a, v = .ref a ∧ G.t a
  | .scr ns, _, v => ∃ a, v = .ref a ∧ (SqK K a (ns.map V.int) ∨ ∃ o, H a = some (.frz o (.lst (ns.map V.int))))
where Vals' : List D → Nat → List V → Prop
  | [], _, vs => vs = []
  | d :: ds, n, vs => ∃ v r, vs = v :: r ∧ Val H G d n v ∧ Vals' ds n r
/-- the same, what lies above level n is owned here alone: at fp -/
def Own (H : Hp) (G : Gs) : D → Nat → V → List Addr → Prop
  | .lst xs, n, v, fp => match n with
    | 0 => Val K w C H G (.lst xs) 0 v ∧ fp = []
    | n + 1 => ∃ a vs fps, v = .ref a ∧ H a = some (.lst vs) ∧ Owns xs n vs fps ∧ fp = a :: fps
  | .dic ks ws, n, v, fp => match n with
    | 0 => Val K w C H G (.dic ks ws) 0 v ∧ fp = []
    | n + 1 => ∃ a es fps, v = .ref a ∧ H a = some (DO a es) ∧ KOk ks ∧ es.map (·.1) = ks.map (fun k => k.key.hash w) ∧ Val.Vals' K w C H G ks 0 (es.map (·.2.1)) ∧ Owns ws n (es.map (·.2.2)) fps ∧ fp = a :: fps
  | d, _, v, fp => Val K w C H G d 0 v ∧ fp = []
where Owns : List D → Nat → List V → List Addr → Prop
  | [], _, vs, fp => vs = [] ∧ fp = []
  | d :: ds, n, vs, fp => ∃ v r f1 f2, vs = v :: r ∧ Own H G d n v f1 ∧ Owns ds n r f2 ∧ fp = f1 ++ f2
end
structure GI (H : Hp) (G : Gs) : Prop where
  zf : ∀ a, G.Z a → ¬ G.F a
  zh : ∀ a, G.Z a → H a ≠ none
  fl : ∀ a, G.F a → ∃ xs, H a = some (.lst xs)
/-- all that was tracked but what the world owns is as it was -/
structure Stp (H : Hp) (G : Gs) (H' : Hp) (G' : Gs) : Prop where
  keep : ∀ a o, H a = some o → ¬ G.F a → H' a = some o
  zz : ∀ a, G.Z a → G'.Z a
  fn : ∀ a, G'.F a → G.F a ∨ H a = none
  ff : ∀ a, G.F a → G'.F a
  tt : ∀ a, G.t a → G'.t a
section
variable {K : PySem.W.Frag} {w : World} {C : Str → Addr} {H H' H2 : Hp} {G G' G2 : Gs}
theorem Stp.refl : Stp H G H G := ⟨fun _ _ h _ => h, fun _ h => h, fun _ h => .inl h, fun _ h => h, fun _ h => h⟩
theorem Stp.nF (s : Stp H G H' G') {a : Addr} {o : HO} (h : H a = some o) (n : ¬ G.F a) : ¬ G'.F a := fun q => by
  rcases s.fn a q with q | q
  · exact n q
  · rw [h] at q; cases q
theorem Stp.trans (s : Stp H G H' G') (t : Stp H' G' H2 G2) : Stp H G H2 G2 := by
  refine ⟨fun a o h n => t.keep a o (s.keep a o h n) (s.nF h n), fun a h => t.zz a (s.zz a h), fun a h => ?_, fun a h => t.ff a (s.ff a h), fun a h => t.tt a (s.tt a h)⟩
  rcases t.fn a h with q | q
  · exact s.fn a q
  · by_cases hF : G.F a
    · exact .inl hF
    · right
      cases e : H a with
      | none => rfl
      | some o =>
        rw [s.keep a o e hF] at q
        cases q
/-- what is tracked stays, Z grows -/
theorem Stp.grow (k : ∀ a o, H a = some o → H' a = some o) (z : ∀ a, G.Z a → G'.Z a) (f : G'.F = G.F) (t : G'.t = G.t) : Stp H G H' G' :=
  ⟨fun a o h _ => k a o h, z, fun a h => .inl (by rw [← f]; exact h), fun a h => by rw [f]; exact h, fun a h => by rw [t]; exact h⟩
/-- what a value leans on -/
def Lean' (G : Gs) (up : Prop) (a : Addr) (o : HO) : Prop := G.Z a ∨ (∃ vs, o = .tup vs) ∨ (∃ ob u, o = .frz ob u) ∨ (up ∧ ¬ G.F a)
section
variable {up : Prop} (hk : ∀ a o, H a = some o → Lean' G up a o → H' a = some o) (zz : ∀ a, G.Z a → G'.Z a) (fn : ∀ a, G'.F a → G.F a ∨ H a = none) (tt : ∀ a, G.t a → G'.t a)
include hk zz fn tt
mutual
theorem Val.gen : ∀ (d : D) (n : Nat) (v : V), (up ∨ n = 0) → Val K w C H G d n v → Val K w C H' G' d n v
  | .non, _, _, _, h => by unfold Val at h ⊢; exact h
  | .bl b, _, _, _, h => by unfold Val at h ⊢; exact h
  | .int i, _, _, _, h => by unfold Val at h ⊢; exact h
  | .str x, _, _, _, h => by unfold Val at h ⊢; exact h
  | .tup xs, _, _, _, h => by
    unfold Val at h ⊢
    obtain ⟨a, vs, e, ha, hv⟩ := h
    exact ⟨a, vs, e, hk a _ ha (.inr (.inl ⟨_, rfl⟩)), Vals'.gen xs 0 vs (.inr rfl) hv⟩
  | .lst xs, n, _, hu, h => by
    unfold Val at h ⊢
    obtain ⟨a, vs, e, ha, hF, hz, hv⟩ := h
    refine ⟨a, vs, e, hk a _ ha ?_, fun q => ?_, fun q => zz a (hz q), Vals'.gen xs _ vs ?_ hv⟩
    · rcases hu with u | u
      · exact .inr (.inr (.inr ⟨u, hF⟩))
      · exact .inl (hz u)
    · rcases fn a q with q | q
      · exact hF q
      · rw [ha] at q; cases q
    · rcases hu with u | u
      · exact .inl u
      · exact .inr (by omega)
  | .dic ks ws, n, _, hu, h => by
    unfold Val at h ⊢
    obtain ⟨a, es, e, ha, hF, hz, hkk, hh, h1, h2⟩ := h
    refine ⟨a, es, e, hk a _ ha ?_, fun q => ?_, fun q => zz a (hz q), hkk, hh, Vals'.gen ks _ _ (.inr rfl) h1, Vals'.gen ws _ _ ?_ h2⟩
    · rcases hu with u | u
      · exact .inr (.inr (.inr ⟨u, hF⟩))
      · exact .inl (hz u)
    · rcases fn a q with q | q
      · exact hF q
      · rw [ha] at q; cases q
    · rcases hu with u | u
      · exact .inl u
      · exact .inr (by omega)
  | .exc c fs, _, _, _, h => by
    unfold Val at h ⊢
    obtain ⟨a, e, ha, hz⟩ := h
    exact ⟨a, e, hk a _ ha (.inl hz), zz a hz⟩
  | .town, _, _, _, h => by
    unfold Val at h ⊢
    obtain ⟨a, e, ha⟩ := h
    exact ⟨a, e, tt a ha⟩
  | .scr ns, _, _, _, h => by
    unfold Val at h ⊢
    obtain ⟨a, e, ha | ⟨o, ha⟩⟩ := h
    · exact ⟨a, e, .inl ha⟩
    · exact ⟨a, e, .inr ⟨o, hk a _ ha (.inr (.inr (.inl ⟨_, _, rfl⟩)))⟩⟩
theorem Vals'.gen : ∀ (ds : List D) (n : Nat) (vs : List V), (up ∨ n = 0) → Val.Vals' K w C H G ds n vs → Val.Vals' K w C H' G' ds n vs
  | [], _, _, _, h => by unfold Val.Vals' at h ⊢; exact h
  | d :: ds, n, _, hu, h => by
    unfold Val.Vals' at h ⊢
    obtain ⟨v, r, e, h1, h2⟩ := h
    exact ⟨v, r, e, Val.gen d n v hu h1, Vals'.gen ds n r hu h2⟩
end
mutual
theorem Own.gen : ∀ (d : D) (n : Nat) (v : V) (fp : List Addr), Own K w C H G d n v fp → (∀ a ∈ fp, ∀ o, H a = some o → H' a = some o) → Own K w C H' G' d n v fp
  | .lst xs, 0, v, fp, h, _ => by
    unfold Own at h ⊢
    exact ⟨Val.gen hk zz fn tt _ _ _ (.inr rfl) h.1, h.2⟩
  | .lst xs, n + 1, v, fp, h, hf => by
    unfold Own at h ⊢
    obtain ⟨a, vs, fps, e, ha, ho, rfl⟩ := h
    exact ⟨a, vs, fps, e, hf a List.mem_cons_self _ ha, Owns.gen xs n vs fps ho fun b hb => hf b (List.mem_cons_of_mem _ hb), rfl⟩
  | .dic ks ws, 0, v, fp, h, _ => by
    unfold Own at h ⊢
    exact ⟨Val.gen hk zz fn tt _ _ _ (.inr rfl) h.1, h.2⟩
  | .dic ks ws, n + 1, v, fp, h, hf => by
    unfold Own at h ⊢
    obtain ⟨a, es, fps, e, ha, hkk, hh, h1, ho, rfl⟩ := h
    exact ⟨a, es, fps, e, hf a List.mem_cons_self _ ha, hkk, hh, Vals'.gen hk zz fn tt ks _ _ (.inr rfl) h1, Owns.gen ws n _ fps ho fun b hb => hf b (List.mem_cons_of_mem _ hb), rfl⟩
  | .non, n, v, fp, h, _ => by unfold Own at h ⊢; exact ⟨Val.gen hk zz fn tt _ _ _ (.inr rfl) h.1, h.2⟩
  | .bl b, n, v, fp, h, _ => by unfold Own at h ⊢; exact ⟨Val.gen hk zz fn tt _ _ _ (.inr rfl) h.1, h.2⟩
  | .int i, n, v, fp, h, _ => by unfold Own at h ⊢; exact ⟨Val.gen hk zz fn tt _ _ _ (.inr rfl) h.1, h.2⟩
  | .str x, n, v, fp, h, _ => by unfold Own at h ⊢; exact ⟨Val.gen hk zz fn tt _ _ _ (.inr rfl) h.1, h.2⟩
  | .tup xs, n, v, fp, h, _ => by unfold Own at h ⊢; exact ⟨Val.gen hk zz fn tt _ _ _ (.inr rfl) h.1, h.2⟩
  | .exc c fs, n, v, fp, h, _ => by unfold Own at h ⊢; exact ⟨Val.gen hk zz fn tt _ _ _ (.inr rfl) h.1, h.2⟩
  | .town, n, v, fp, h, _ => by unfold Own at h ⊢; exact ⟨Val.gen hk zz fn tt _ _ _ (.inr rfl) h.1, h.2⟩
  | .scr ns, n, v, fp, h, _ => by unfold Own at h ⊢; exact ⟨Val.gen hk zz fn tt _ _ _ (.inr rfl) h.1, h.2⟩
theorem Owns.gen : ∀ (ds : List D) (n : Nat) (vs : List V) (fp : List Addr), Own.Owns K w C H G ds n vs fp → (∀ a ∈ fp, ∀ o, H a = some o → H' a = some o) → Own.Owns K w C H' G' ds n vs fp
  | [], _, vs, fp, h, _ => by unfold Own.Owns at h ⊢; exact h
  | d :: ds, n, vs, fp, h, hf => by
    unfold Own.Owns at h ⊢
    obtain ⟨v, r, f1, f2, e, h1, h2, rfl⟩ := h
    exact ⟨v, r, f1, f2, e, Own.gen d n v f1 h1 fun a ha => hf a (List.mem_append_left _ ha), Owns.gen ds n r f2 h2 fun a ha => hf a (List.mem_append_right _ ha), rfl⟩
end
end
theorem GI.lean (g : GI H G) {a : Addr} {o : HO} (h : H a = some o) (l : Lean' G True a o) : ¬ G.F a := by
  rcases l with z | ⟨vs, rfl⟩ | ⟨ob, u, rfl⟩ | ⟨_, z⟩
  · exact g.zf a z
  · intro q
    obtain ⟨_, q⟩ := g.fl a q
    rw [h] at q; cases q
  · intro q
    obtain ⟨_, q⟩ := g.fl a q
    rw [h] at q; cases q
  · exact z
theorem Val.mono (s : Stp H G H' G') (g : GI H G) {d : D} {n : Nat} {v : V} (h : Val K w C H G d n v) : Val K w C H' G' d n v :=
  Val.gen (up := True) (fun a o e l => s.keep a o e (g.lean e l)) s.zz s.fn s.tt d n v (.inl trivial) h
theorem Vals'.mono (s : Stp H G H' G') (g : GI H G) {ds : List D} {n : Nat} {vs : List V} (h : Val.Vals' K w C H G ds n vs) : Val.Vals' K w C H' G' ds n vs :=
  Vals'.gen (up := True) (fun a o e l => s.keep a o e (g.lean e l)) s.zz s.fn s.tt ds n vs (.inl trivial) h
theorem Own.mono (s : Stp H G H' G') (g : GI H G) {d : D} {n : Nat} {v : V} {fp : List Addr} (h : Own K w C H G d n v fp) (hf : ∀ a ∈ fp, ¬ G.F a) : Own K w C H' G' d n v fp :=
  Own.gen (up := True) (fun a o e l => s.keep a o e (g.lean e l)) s.zz s.fn s.tt d n v fp h fun a ha o e => s.keep a o e (hf a ha)
theorem Owns.mono (s : Stp H G H' G') (g : GI H G) {ds : List D} {n : Nat} {vs : List V} {fp : List Addr} (h : Own.Owns K w C H G ds n vs fp) (hf : ∀ a ∈ fp, ¬ G.F a) : Own.Owns K w C H' G' ds n vs fp :=
  Owns.gen (up := True) (fun a o e l => s.keep a o e (g.lean e l)) s.zz s.fn s.tt ds n vs fp h fun a ha o e => s.keep a o e (hf a ha)
mutual
theorem Val.up : ∀ (d : D) {n m : Nat} (v : V), n ≤ m → Val K w C H G d n v → Val K w C H G d m v
  | .non, _, _, _, _, h => by unfold Val at h ⊢; exact h
  | .bl b, _, _, _, _, h => by unfold Val at h ⊢; exact h
  | .int i, _, _, _, _, h => by unfold Val at h ⊢; exact h
  | .str x, _, _, _, _, h => by unfold Val at h ⊢; exact h
  | .tup xs, _, _, _, _, h => by unfold Val at h ⊢; exact h
  | .lst xs, n, m, _, hn, h => by
    unfold Val at h ⊢
    obtain ⟨a, vs, e, ha, hF, hz, hv⟩ := h
    exact ⟨a, vs, e, ha, hF, fun q => hz (by omega), Vals'.up xs vs (by omega) hv⟩
  | .dic ks ws, n, m, _, hn, h => by
    unfold Val at h ⊢
    obtain ⟨a, es, e, ha, hF, hz, hk, hh, h1, h2⟩ := h
    exact ⟨a, es, e, ha, hF, fun q => hz (by omega), hk, hh, h1, Vals'.up ws _ (by omega) h2⟩
  | .exc c fs, _, _, _, _, h => by unfold Val at h ⊢; exact h
  | .town, _, _, _, _, h => by unfold Val at h ⊢; exact h
  | .scr ns, _, _, _, _, h => by unfold Val at h ⊢; exact h
theorem Vals'.up : ∀ (ds : List D) {n m : Nat} (vs : List V), n ≤ m → Val.Vals' K w C H G ds n vs → Val.Vals' K w C H G ds m vs
  | [], _, _, _, _, h => by unfold Val.Vals' at h ⊢; exact h
  | d :: ds, n, m, _, hn, h => by
    unfold Val.Vals' at h ⊢
    obtain ⟨v, r, e, h1, h2⟩ := h
    exact ⟨v, r, e, Val.up d v hn h1, Vals'.up ds r hn h2⟩
end
mutual
/-- owned is seen -/
theorem Own.val : ∀ (d : D) (n : Nat) (v : V) (fp : List Addr), Own K w C H G d n v fp → (∀ a ∈ fp, ¬ G.F a) → Val K w C H G d n v
  | .lst xs, 0, v, fp, h, _ => by unfold Own at h; exact h.1
  | .lst xs, n + 1, v, fp, h, hf => by
    unfold Own at h
    obtain ⟨a, vs, fps, e, ha, ho, rfl⟩ := h
    unfold Val
    exact ⟨a, vs, e, ha, hf a List.mem_cons_self, fun q => (by omega), Owns.val xs n vs fps ho fun b hb => hf b (List.mem_cons_of_mem _ hb)⟩
  | .dic ks ws, 0, v, fp, h, _ => by unfold Own at h; exact h.1
  | .dic ks ws, n + 1, v, fp, h, hf => by
    unfold Own at h
    obtain ⟨a, es, fps, e, ha, hk, hh, h1, ho, rfl⟩ := h
    unfold Val
    exact ⟨a, es, e, ha, hf a List.mem_cons_self, fun q => (by omega), hk, hh, h1, Owns.val ws n _ fps ho fun b hb => hf b (List.mem_cons_of_mem _ hb)⟩
  | .non, n, v, fp, h, _ => by unfold Own at h; exact Val.up _ v (Nat.zero_le _) h.1
  | .bl b, n, v, fp, h, _ => by unfold Own at h; exact Val.up _ v (Nat.zero_le _) h.1
  | .int i, n, v, fp, h, _ => by unfold Own at h; exact Val.up _ v (Nat.zero_le _) h.1
  | .str x, n, v, fp, h, _ => by unfold Own at h; exact Val.up _ v (Nat.zero_le _) h.1
  | .tup xs, n, v, fp, h, _ => by unfold Own at h; exact Val.up _ v (Nat.zero_le _) h.1
  | .exc c fs, n, v, fp, h, _ => by unfold Own at h; exact Val.up _ v (Nat.zero_le _) h.1
  | .town, n, v, fp, h, _ => by unfold Own at h; exact Val.up _ v (Nat.zero_le _) h.1
  | .scr ns, n, v, fp, h, _ => by unfold Own at h; exact Val.up _ v (Nat.zero_le _) h.1
theorem Owns.val : ∀ (ds : List D) (n : Nat) (vs : List V) (fp : List Addr), Own.Owns K w C H G ds n vs fp → (∀ a ∈ fp, ¬ G.F a) → Val.Vals' K w C H G ds n vs
  | [], _, vs, fp, h, _ => by unfold Own.Owns at h; unfold Val.Vals'; exact h.1
  | d :: ds, n, vs, fp, h, hf => by
    unfold Own.Owns at h
    obtain ⟨v, r, f1, f2, e, h1, h2, rfl⟩ := h
    unfold Val.Vals'
    exact ⟨v, r, e, Own.val d n v f1 h1 fun a ha => hf a (List.mem_append_left _ ha), Owns.val ds n r f2 h2 fun a ha => hf a (List.mem_append_right _ ha)⟩
end
/-- more is never changed again -/
def Gs.cool (G : Gs) (fp : List Addr) : Gs := { G with Z := fun a => G.Z a ∨ a ∈ fp }
theorem cool_le {f g : List Addr} (h : ∀ a ∈ f, a ∈ g) : ∀ a, (G.cool f).Z a → (G.cool g).Z a := fun a z => Or.elim z Or.inl fun q => Or.inr (h a q)
theorem le_cool {f : List Addr} : ∀ a, G.Z a → (G.cool f).Z a := fun a z => Or.inl z
theorem Val.cool {fp : List Addr} {d : D} {n : Nat} {v : V} (h : Val K w C H G d n v) : Val K w C H (G.cool fp) d n v :=
  Val.gen (up := True) (fun a o e _ => e) le_cool (fun a q => Or.inl q) (fun a q => q) d n v (.inl trivial) h
theorem Vals'.cool {fp : List Addr} {ds : List D} {n : Nat} {vs : List V} (h : Val.Vals' K w C H G ds n vs) : Val.Vals' K w C H (G.cool fp) ds n vs :=
  Vals'.gen (up := True) (fun a o e _ => e) le_cool (fun a q => Or.inl q) (fun a q => q) ds n vs (.inl trivial) h
theorem Val.zle {G' : Gs} (z : ∀ a, G.Z a → G'.Z a) (f : G'.F = G.F) (t : G'.t = G.t) {d : D} {n : Nat} {v : V} (h : Val K w C H G d n v) : Val K w C H G' d n v :=
  Val.gen (up := True) (fun a o e _ => e) z (fun a q => .inl (by rw [← f]; exact q)) (fun a q => by rw [t]; exact q) d n v (.inl trivial) h
theorem Vals'.zle {G' : Gs} (z : ∀ a, G.Z a → G'.Z a) (f : G'.F = G.F) (t : G'.t = G.t) {ds : List D} {n : Nat} {vs : List V} (h : Val.Vals' K w C H G ds n vs) : Val.Vals' K w C H G' ds n vs :=
  Vals'.gen (up := True) (fun a o e _ => e) z (fun a q => .inl (by rw [← f]; exact q)) (fun a q => by rw [t]; exact q) ds n vs (.inl trivial) h
mutual
/-- owned is given up: never changed again -/
theorem Own.freeze : ∀ (d : D) (n : Nat) (v : V) (fp : List Addr), Own K w C H G d n v fp → (∀ a ∈ fp, ¬ G.F a) → Val K w C H (G.cool fp) d 0 v
  | .lst xs, 0, v, fp, h, _ => by unfold Own at h; exact h.1.cool
  | .lst xs, n + 1, v, fp, h, hf => by
    unfold Own at h
    obtain ⟨a, vs, fps, e, ha, ho, rfl⟩ := h
    unfold Val
    exact ⟨a, vs, e, ha, hf a List.mem_cons_self, fun _ => .inr List.mem_cons_self, Vals'.zle (G := G.cool fps) (G' := G.cool (a :: fps)) (cool_le fun b => List.mem_cons_of_mem _) rfl rfl (Owns.freeze xs n vs fps ho fun b hb => hf b (List.mem_cons_of_mem _ hb))⟩
  | .dic ks ws, 0, v, fp, h, _ => by unfold Own at h; exact h.1.cool
  | .dic ks ws, n + 1, v, fp, h, hf => by
    unfold Own at h
    obtain ⟨a, es, fps, e, ha, hk, hh, h1, ho, rfl⟩ := h
    unfold Val
    exact ⟨a, es, e, ha, hf a List.mem_cons_self, fun _ => .inr List.mem_cons_self, hk, hh, Vals'.cool h1, Vals'.zle (G := G.cool fps) (G' := G.cool (a :: fps)) (cool_le fun b => List.mem_cons_of_mem _) rfl rfl (Owns.freeze ws n _ fps ho fun b hb => hf b (List.mem_cons_of_mem _ hb))⟩
  | .non, n, v, fp, h, _ => by unfold Own at h; exact h.1.cool
  | .bl b, n, v, fp, h, _ => by unfold Own at h; exact h.1.cool
  | .int i, n, v, fp, h, _ => by unfold Own at h; exact h.1.cool
  | .str x, n, v, fp, h, _ => by unfold Own at h; exact h.1.cool
  | .tup xs, n, v, fp, h, _ => by unfold Own at h; exact h.1.cool
  | .exc c fs, n, v, fp, h, _ => by unfold Own at h; exact h.1.cool
  | .town, n, v, fp, h, _ => by unfold Own at h; exact h.1.cool
  | .scr ns, n, v, fp, h, _ => by unfold Own at h; exact h.1.cool
theorem Owns.freeze : ∀ (ds : List D) (n : Nat) (vs : List V) (fp : List Addr), Own.Owns K w C H G ds n vs fp → (∀ a ∈ fp, ¬ G.F a) → Val.Vals' K w C H (G.cool fp) ds 0 vs
  | [], _, vs, fp, h, _ => by unfold Own.Owns at h; unfold Val.Vals'; exact h.1
  | d :: ds, n, vs, fp, h, hf => by
    unfold Own.Owns at h
    obtain ⟨v, r, f1, f2, e, h1, h2, rfl⟩ := h
    unfold Val.Vals'
    exact ⟨v, r, e, Val.zle (G := G.cool f1) (G' := G.cool (f1 ++ f2)) (cool_le fun b => List.mem_append_left _) rfl rfl (Own.freeze d n v f1 h1 fun a ha => hf a (List.mem_append_left _ ha)),
      Vals'.zle (G := G.cool f2) (G' := G.cool (f1 ++ f2)) (cool_le fun b => List.mem_append_right _) rfl rfl (Owns.freeze ds n r f2 h2 fun a ha => hf a (List.mem_append_right _ ha))⟩
end
mutual
/-- what is owned stands there -/
theorem Own.there : ∀ (d : D) (n : Nat) (v : V) (fp : List Addr), Own K w C H G d n v fp → ∀ a ∈ fp, (∃ xs, H a = some (.lst xs)) ∨ ∃ es, H a = some (DO a es)
  | .lst xs, 0, v, fp, h, a, ha => by unfold Own at h; rw [h.2] at ha; cases ha
  | .lst xs, n + 1, v, fp, h, a, ha => by
    unfold Own at h
    obtain ⟨b, vs, fps, e, hb, ho, rfl⟩ := h
    rcases List.mem_cons.mp ha with e | ha
    · subst e; exact .inl ⟨_, hb⟩
    · exact Owns.there xs n vs fps ho a ha
  | .dic ks ws, 0, v, fp, h, a, ha => by unfold Own at h; rw [h.2] at ha; cases ha
  | .dic ks ws, n + 1, v, fp, h, a, ha => by
    unfold Own at h
    obtain ⟨b, es, fps, e, hb, hk, hh, h1, ho, rfl⟩ := h
    rcases List.mem_cons.mp ha with e | ha
    · subst e; exact .inr ⟨_, hb⟩
    · exact Owns.there ws n _ fps ho a ha
  | .non, n, v, fp, h, a, ha => by unfold Own at h; rw [h.2] at ha; cases ha
  | .bl b, n, v, fp, h, a, ha => by unfold Own at h; rw [h.2] at ha; cases ha
  | .int i, n, v, fp, h, a, ha => by unfold Own at h; rw [h.2] at ha; cases ha
  | .str x, n, v, fp, h, a, ha => by unfold Own at h; rw [h.2] at ha; cases ha
  | .tup xs, n, v, fp, h, a, ha => by unfold Own at h; rw [h.2] at ha; cases ha
  | .exc c fs, n, v, fp, h, a, ha => by unfold Own at h; rw [h.2] at ha; cases ha
  | .town, n, v, fp, h, a, ha => by unfold Own at h; rw [h.2] at ha; cases ha
  | .scr ns, n, v, fp, h, a, ha => by unfold Own at h; rw [h.2] at ha; cases ha
theorem Owns.there : ∀ (ds : List D) (n : Nat) (vs : List V) (fp : List Addr), Own.Owns K w C H G ds n vs fp → ∀ a ∈ fp, (∃ xs, H a = some (.lst xs)) ∨ ∃ es, H a = some (DO a es)
  | [], _, vs, fp, h, a, ha => by unfold Own.Owns at h; rw [h.2] at ha; cases ha
  | d :: ds, n, vs, fp, h, a, ha => by
    unfold Own.Owns at h
    obtain ⟨v, r, f1, f2, e, h1, h2, rfl⟩ := h
    rcases List.mem_append.mp ha with ha | ha
    · exact Own.there d n v f1 h1 a ha
    · exact Owns.there ds n r f2 h2 a ha
end
theorem Own.zero {d : D} {v : V} (h : Val K w C H G d 0 v) : Own K w C H G d 0 v [] := by
  cases d <;> unfold Own <;> exact ⟨h, rfl⟩
/-- owned to no depth is a value -/
theorem Own.of0 {d : D} {v : V} {fp : List Addr} (h : Own K w C H G d 0 v fp) : Val K w C H G d 0 v ∧ fp = [] := by
  cases d <;> (unfold Own at h; exact h)
end
end Hx
namespace Hx
open PySem PySem.Spec PyProof.Rows L2
section
variable (K : PySem.W.Frag) (w : World) (C : Str → Addr)
/-- the world as it lies -/
def WR (H : Hp) (G : Gs) : Wd → Prop
  | none => (∀ a, ¬ G.F a) ∧ ∀ a, ¬ G.t a
  | some (ns, c) => ns ≠ [] ∧ ns.length ≤ 63 ∧ 0 ≤ c ∧ ∃ aT aN, aT ≠ aN ∧ H aT = some (.lst [.ref aN, .int c]) ∧ H aN = some (.lst (ns.map V.int)) ∧ (∀ a, G.F a ↔ a = aT ∨ a = aN) ∧ ∀ a, G.t a ↔ a = aT
/-- a slot as it lies -/
def SlR (H : Hp) (G : Gs) : Sl → Option V → List Addr → Prop
  | .un, _, fp => fp = []
  | .fz d, x, fp => (∃ v, x = some v ∧ Val K w C H G d 0 v) ∧ fp = []
  | .ow n d, x, fp => 0 < n ∧ ∃ v, x = some v ∧ Own K w C H G d n v fp
structure EnvR (H : Hp) (G : Gs) (env : List Sl) (σ : List (Option V)) (fps : Nat → List Addr) : Prop where
  len : σ.length = env.length
  at_ : ∀ i sl x, env[i]? = some sl → σ[i]? = some x → SlR K w C H G sl x (fps i)
  out : ∀ i, env.length ≤ i → fps i = []
/-- the state of a def's run; H0, G0: at its entry -/
structure Ok (H0 : Hp) (G0 : Gs) (σ : List (Option V)) (H : Hp) (s : St) (fps : Nat → List Addr) (G : Gs) : Prop where
  gi : GI H G
  wr : WR H G s.w
  er : EnvR K w C H G s.env σ fps
  nd : ∀ i, (fps i).Nodup
  dj : ∀ i j a, i ≠ j → a ∈ fps i → a ∉ fps j
  nz : ∀ i a, a ∈ fps i → ¬ G.Z a
  nF : ∀ i a, a ∈ fps i → ¬ G.F a
  base : Stp H0 G0 H G
  zb : ∀ a, G.Z a → G0.Z a ∨ H0 a = none
  nb : ∀ i a, a ∈ fps i → H0 a = none
end
/-- one expression further -/
structure Stv (H : Hp) (G : Gs) (fps : Nat → List Addr) (H' : Hp) (G' : Gs) (fps' : Nat → List Addr) : Prop where
  stp : Stp H G H' G'
  zn : ∀ a, G'.Z a → G.Z a ∨ H a = none ∨ ∃ i, a ∈ fps i
  sub : ∀ i, fps' i = fps i ∨ fps' i = []
section
variable {K : PySem.W.Frag} {w : World} {C : Str → Addr} {H0 H H' H2 : Hp} {G0 G G' G2 : Gs} {fps fps' fps2 : Nat → List Addr} {σ : List (Option V)} {s s' : St}
theorem Stv.refl : Stv H G fps H G fps := ⟨.refl, fun _ z => .inl z, fun _ => .inl rfl⟩
theorem Stp.none' (s : Stp H G H' G') (g' : GI H' G') {a : Addr} (h : H' a = none) : H a = none := by
  cases e : H a with
  | none => rfl
  | some o =>
    by_cases q : G.F a
    · obtain ⟨_, z⟩ := g'.fl a (s.ff a q)
      rw [z] at h; cases h
    · rw [s.keep a o e q] at h; cases h
theorem Stv.trans (a : Stv H G fps H' G' fps') (b : Stv H' G' fps' H2 G2 fps2) (g' : GI H' G') : Stv H G fps H2 G2 fps2 := by
  refine ⟨a.stp.trans b.stp, fun x z => ?_, fun i => ?_⟩
  · rcases b.zn x z with z | z | ⟨i, z⟩
    · exact a.zn x z
    · exact .inr (.inl (a.stp.none' g' z))
    · right; right
      refine ⟨i, ?_⟩
      rcases a.sub i with e | e
      · rw [← e]; exact z
      · rw [e] at z; cases z
  · rcases b.sub i with e | e
    · rcases a.sub i with e2 | e2
      · exact .inl (e.trans e2)
      · exact .inr (e.trans e2)
    · exact .inr e
theorem SlR.mono (st : Stp H G H' G') (g : GI H G) {sl : Sl} {x : Option V} {fp : List Addr} (h : SlR K w C H G sl x fp) (hf : ∀ a ∈ fp, ¬ G.F a) : SlR K w C H' G' sl x fp := by
  cases sl with
  | un => exact h
  | fz d => obtain ⟨⟨v, e, hv⟩, q⟩ := h; exact ⟨⟨v, e, hv.mono st g⟩, q⟩
  | ow n d => obtain ⟨hn, v, e, hv⟩ := h; exact ⟨hn, v, e, hv.mono st g hf⟩
theorem SlR.there {sl : Sl} {x : Option V} {fp : List Addr} (h : SlR K w C H G sl x fp) : ∀ a ∈ fp, (∃ xs, H a = some (.lst xs)) ∨ ∃ es, H a = some (DO a es) := by
  cases sl with
  | un => intro a ha; rw [show fp = [] from h] at ha; cases ha
  | fz d => intro a ha; rw [show fp = [] from h.2] at ha; cases ha
  | ow n d => obtain ⟨hn, v, e, hv⟩ := h; exact Own.there _ _ _ _ hv
theorem EnvR.there (e : EnvR K w C H G s.env σ fps) : ∀ i a, a ∈ fps i → (∃ xs, H a = some (.lst xs)) ∨ ∃ es, H a = some (DO a es) := fun i a ha => by
  by_cases hi : i < s.env.length
  · have h2 : i < σ.length := by rw [e.len]; exact hi
    exact (e.at_ i _ _ (List.getElem?_eq_getElem hi) (List.getElem?_eq_getElem h2)).there a ha
  · rw [e.out i (by omega)] at ha; cases ha
theorem EnvR.live (e : EnvR K w C H G s.env σ fps) {i : Nat} {a : Addr} (ha : a ∈ fps i) : H a ≠ none := by
  rcases e.there i a ha with ⟨_, q⟩ | ⟨_, q⟩ <;> (rw [q]; simp)
/-- the heap has grown, more is never changed again -/
theorem Ok.grow (o : Ok K w C H0 G0 σ H s fps G) (k : ∀ a ob, H a = some ob → H' a = some ob) {fp : List Addr} (hn : ∀ a ∈ fp, H a = none) (hm : ∀ a ∈ fp, H' a ≠ none) :
    Ok K w C H0 G0 σ H' s fps (G.cool fp) ∧ Stv H G fps H' (G.cool fp) fps := by
  have st : Stp H G H' (G.cool fp) := .grow k (fun a z => Or.inl z) rfl rfl
  have nF : ∀ a ∈ fp, ¬ G.F a := fun a ha q => by
    obtain ⟨_, z⟩ := o.gi.fl a q
    rw [hn a ha] at z; cases z
  refine ⟨⟨⟨fun a z => ?_, fun a z => ?_, fun a z => ?_⟩, ?_, ⟨o.er.len, fun i sl x h1 h2 => (o.er.at_ i sl x h1 h2).mono st o.gi (o.nF i), o.er.out⟩, o.nd, o.dj, fun i a ha z => ?_, o.nF, o.base.trans st, fun a z => ?_, o.nb⟩, st, fun a z => ?_, fun i => .inl rfl⟩
  · rcases z with z | z
    · exact o.gi.zf a z
    · exact nF a z
  · rcases z with z | z
    · have := o.gi.zh a z
      cases e : H a with
      | none => exact absurd e this
      | some ob => rw [k a ob e]; simp
    · exact hm a z
  · obtain ⟨xs, q⟩ := o.gi.fl a z
    exact ⟨xs, k _ _ q⟩
  · have wr := o.wr
    cases hw : s.w with
    | none => rw [hw] at wr; exact wr
    | some p =>
      rw [hw] at wr
      obtain ⟨n1, n2, n3, aT, aN, n4, n5, n6, n7, n8⟩ := wr
      exact ⟨n1, n2, n3, aT, aN, n4, k _ _ n5, k _ _ n6, n7, n8⟩
  · rcases z with z | z
    · exact o.nz i a ha z
    · exact o.er.live ha (hn a z)
  · rcases z with z | z
    · exact o.zb a z
    · right
      cases e : H0 a with
      | none => rfl
      | some ob =>
        by_cases q : G0.F a
        · obtain ⟨_, z2⟩ := o.gi.fl a (o.base.ff a q)
          rw [hn a z] at z2; cases z2
        · have := o.base.keep a ob e q
          rw [hn a z] at this; cases this
  · rcases z with z | z
    · exact .inl z
    · exact .inr (.inl (hn a z))
/-- a temporary's places: new, and no one else's -/
structure Fresh (H : Hp) (G' : Gs) (fps' : Nat → List Addr) (fp : List Addr) : Prop where
  nd : fp.Nodup
  new : ∀ a ∈ fp, H a = none
  nz : ∀ a ∈ fp, ¬ G'.Z a
  nF : ∀ a ∈ fp, ¬ G'.F a
  dj : ∀ i, ∀ a ∈ fp, a ∉ fps' i
theorem Fresh.nil : Fresh H G' fps' [] := ⟨List.nodup_nil, (fun _ h => nomatch h), (fun _ h => nomatch h), (fun _ h => nomatch h), fun _ _ h => nomatch h⟩
theorem Fresh.old (f : Fresh H' G2 fps' fp) (a : Stp H G H' G') (g' : GI H' G') : Fresh H G2 fps' fp := ⟨f.nd, fun x h => a.none' g' (f.new x h), f.nz, f.nF, f.dj⟩
/-- fields of the classes of errors -/
def fieldsOf (c : Str) : List Str := if c = "Clash" then ["beat", "line"] else []
/-- an error's own dict -/
def XR (K : PySem.W.Frag) (w : World) (C : Str → Addr) (H : Hp) (G : Gs) (c : Str) (fs : List D) (dd : Option Addr) : Prop :=
  if fieldsOf c = [] then dd = none else ∃ a vs, dd = some a ∧ H a = some (.xd ((fieldsOf c).zip vs).reverse) ∧ (fieldsOf c).length = vs.length ∧ Val.Vals' K w C H G fs 0 vs
/-- a value behind an expression: looked at to level k (0: handed on, new to depth n) -/
def Got (K : PySem.W.Frag) (w : World) (C : Str → Addr) (k n : Nat) (H H' : Hp) (G' : Gs) (fps' : Nat → List Addr) (d : D) (v : V) : Prop :=
  if k = 0 then ∃ fp, Own K w C H' G' d n v fp ∧ Fresh H G' fps' fp else Val K w C H' G' d k v
/-- values looked at to their levels (0: never changed again) -/
def GotP (K : PySem.W.Frag) (w : World) (C : Str → Addr) (H : Hp) (G : Gs) : List Nat → List D → List V → Prop
  | _, [], vs => vs = []
  | ks, d :: ds, vs => ∃ v r, vs = v :: r ∧ Val K w C H G d (ks.headD 0) v ∧ GotP K w C H G ks.tail ds r
section
variable (K : PySem.W.Frag) (w : World) (C : Str → Addr) (H0 : Hp) (G0 : Gs) (σ : List (Option V)) (W : WX)
/-- what is wanted behind a run: of its value, of an exception -/
def RdG {α : Type} (H : Hp) (G : Gs) (fps : Nat → List Addr) (ok : α → St → Hp → Gs → (Nat → List Addr) → Prop) : Res α → Prop
  | .ok d s' => ∀ H' G' fps', Ok K w C H0 G0 σ H' s' fps' G' → Stv H G fps H' G' fps' → ok d s' H' G' fps'
  | .exc c fs s' => ∀ H' G' fps' dd, Ok K w C H0 G0 σ H' s' fps' G' → Stv H G fps H' G' fps' → XR K w C H' G' c fs dd → W (.ref (C c)) dd σ H'
  | .stuck => False
abbrev RdE (k n : Nat) (H : Hp) (G : Gs) (fps : Nat → List Addr) (Q : VK) (r : Res D) : Prop := RdG K w C H0 G0 σ W H G fps (fun d _ H' G' fps' => ∀ v, Got K w C k n H H' G' fps' d v → Q v H') r
abbrev RdA (n : Nat) (H : Hp) (G : Gs) (fps : Nat → List Addr) (Q : List V → Hp → Prop) (r : Res (List D)) : Prop :=
  RdG K w C H0 G0 σ W H G fps (fun ds _ H' G' fps' => ∀ vs fp, Own.Owns K w C H' G' ds n vs fp → Fresh H G' fps' fp → Q vs H') r
end
section
variable {W : WX} {Q : VK}
theorem Ok.nil (o : Ok K w C H0 G0 σ H s fps G) : Ok K w C H0 G0 σ H s fps (G.cool []) ∧ Stv H G fps H (G.cool []) fps := o.grow (fun _ _ h => h) (fun _ h => nomatch h) (fun _ h => nomatch h)
/-- a value made by a rule of the layer -/
theorem Ok.fin (o : Ok K w C H0 G0 σ H s fps G) {k n : Nat} {d : D} (q : RdE K w C H0 G0 σ W k n H G fps Q (.ok d s)) {v : V} {fp : List Addr} (gr : ∀ a ob, H a = some ob → H' a = some ob)
    (ow : Own K w C H' G d n v fp) (nd : fp.Nodup) (hn : ∀ a ∈ fp, H a = none) : Q v H' := by
  have nF : ∀ a ∈ fp, ¬ G.F a := fun a ha q => by
    obtain ⟨_, z⟩ := o.gi.fl a q
    rw [hn a ha] at z; cases z
  have hm : ∀ a ∈ fp, H' a ≠ none := fun a ha => by
    rcases Own.there _ _ _ _ ow a ha with ⟨_, z⟩ | ⟨_, z⟩ <;> (rw [z]; simp)
  by_cases hk : k = 0
  · obtain ⟨o1, st⟩ := o.grow (fp := []) gr (fun _ h => nomatch h) (fun _ h => nomatch h)
    refine q H' _ fps o1 st v ?_
    unfold Got
    rw [if_pos hk]
    refine ⟨fp, ?_, nd, hn, fun a ha z => ?_, nF, fun i a ha z => o.er.live z (hn a ha)⟩
    · exact Own.gen (up := True) (fun _ _ e _ => e) le_cool (fun _ q => Or.inl q) (fun _ q => q) _ _ _ _ ow (fun _ _ _ e => e)
    · rcases z with z | z
      · exact o.gi.zh a z (hn a ha)
      · cases z
  · obtain ⟨o1, st⟩ := o.grow (fp := fp) gr hn hm
    refine q H' _ fps o1 st v ?_
    unfold Got
    rw [if_neg hk]
    exact Val.up _ _ (Nat.zero_le _) (Own.freeze _ _ _ _ ow nF)
/-- a plain value -/
theorem Ok.fin0 (o : Ok K w C H0 G0 σ H s fps G) {k n : Nat} {d : D} (q : RdE K w C H0 G0 σ W k n H G fps Q (.ok d s)) {v : V} (gr : ∀ a ob, H a = some ob → H' a = some ob)
    (hv : Val K w C H' G d 0 v) (ha : (∃ xs, d = .lst xs) ∨ (∃ ks ws, d = .dic ks ws) → n = 0) : Q v H' := by
  refine o.fin q gr (fp := []) ?_ List.nodup_nil (fun _ h => nomatch h)
  cases d with
  | lst xs => rw [ha (.inl ⟨_, rfl⟩)]; exact Own.zero hv
  | dic ks ws => rw [ha (.inr ⟨_, _, rfl⟩)]; exact Own.zero hv
  | _ => unfold Own; exact ⟨hv, rfl⟩
/-- a value that is known already -/
theorem Ok.finV (o : Ok K w C H0 G0 σ H s fps G) {k n : Nat} {d : D} (q : RdE K w C H0 G0 σ W k n H G fps Q (.ok d s)) {v : V} (hv : Val K w C H G d k v) (hn : k = 0 → n = 0) : Q v H := by
  refine q H G fps o .refl v ?_
  unfold Got
  by_cases hk : k = 0
  · rw [if_pos hk]
    subst hk
    rw [hn rfl]
    exact ⟨[], Own.zero hv, Fresh.nil⟩
  · rw [if_neg hk]
    exact hv
end
/-- the slot i, seen -/
theorem Ok.peek (o : Ok K w C H0 G0 σ H s fps G) {i n : Nat} {d : D} (h : s.env[i]? = some (.ow n d)) : 0 < n ∧ ∃ v, σ[i]? = some (some v) ∧ Own K w C H G d n v (fps i) ∧ Val K w C H G d n v := by
  have hi := (List.getElem?_eq_some_iff.mp h).1
  have h2 : i < σ.length := by rw [o.er.len]; exact hi
  have hs := o.er.at_ i _ _ h (List.getElem?_eq_getElem h2)
  obtain ⟨hn, v, e, hv⟩ := hs
  exact ⟨hn, v, (List.getElem?_eq_getElem h2).trans (congrArg some e), hv, Own.val _ _ _ _ hv (o.nF i)⟩
theorem Ok.look (o : Ok K w C H0 G0 σ H s fps G) {i : Nat} {d : D} (h : s.env[i]? = some (.fz d)) : ∃ v, σ[i]? = some (some v) ∧ Val K w C H G d 0 v := by
  have hi := (List.getElem?_eq_some_iff.mp h).1
  have h2 : i < σ.length := by rw [o.er.len]; exact hi
  have hs := o.er.at_ i _ _ h (List.getElem?_eq_getElem h2)
  obtain ⟨⟨v, e, hv⟩, _⟩ := hs
  exact ⟨v, (List.getElem?_eq_getElem h2).trans (congrArg some e), hv⟩
/-- a function changed at one place -/
def setF (f : Nat → List Addr) (i : Nat) (x : List Addr) : Nat → List Addr := fun j => if j = i then x else f j
theorem setF_self {f : Nat → List Addr} {i : Nat} {x : List Addr} : setF f i x i = x := if_pos rfl
theorem setF_ne {f : Nat → List Addr} {i j : Nat} {x : List Addr} (h : j ≠ i) : setF f i x j = f j := if_neg h
/-- the slot i is handed on: it is never changed again -/
theorem Ok.take (o : Ok K w C H0 G0 σ H s fps G) {i n : Nat} {d : D} (h : s.env[i]? = some (.ow n d)) :
    ∃ v, σ[i]? = some (some v) ∧ Ok K w C H0 G0 σ H { s with env := s.env.set i (.fz d) } (setF fps i []) (G.cool (fps i)) ∧ Stv H G fps H (G.cool (fps i)) (setF fps i []) ∧ Val K w C H (G.cool (fps i)) d 0 v := by
  obtain ⟨hn, v, e, ho, _⟩ := o.peek h
  have fr := Own.freeze _ _ _ _ ho (o.nF i)
  have st : Stp H G H (G.cool (fps i)) := .grow (fun _ _ h => h) (fun a z => Or.inl z) rfl rfl
  refine ⟨v, e, ⟨⟨fun a z => ?_, fun a z => ?_, o.gi.fl⟩, ?_, ⟨by rw [List.length_set]; exact o.er.len, fun j sl x h1 h2 => ?_, fun j hj => ?_⟩, fun j => ?_, fun j l a hne ha hb => ?_, fun j a ha z => ?_, fun j a ha => ?_, o.base.trans st, fun a z => ?_, fun j a ha => ?_⟩, ⟨st, fun a z => ?_, fun j => ?_⟩, fr⟩
  · rcases z with z | z
    · exact o.gi.zf a z
    · exact o.nF i a z
  · rcases z with z | z
    · exact o.gi.zh a z
    · exact o.er.live z
  · have wr := o.wr
    show WR H (G.cool (fps i)) s.w
    cases hw : s.w with
    | none => rw [hw] at wr; exact wr
    | some p => rw [hw] at wr; exact wr
  · by_cases hj : j = i
    · subst hj
      have hi := (List.getElem?_eq_some_iff.mp h).1
      have h1' : (s.env.set j (.fz d))[j]? = some sl := h1
      rw [List.getElem?_set_self hi] at h1'
      cases h1'
      rw [e] at h2; cases h2
      rw [setF_self]
      exact ⟨⟨v, rfl, fr⟩, rfl⟩
    · have h1' : (s.env.set i (.fz d))[j]? = some sl := h1
      rw [List.getElem?_set_ne (Ne.symm hj)] at h1'
      rw [setF_ne hj]
      exact (o.er.at_ j sl x h1' h2).mono st o.gi (o.nF j)
  · have hj' : s.env.length ≤ j := by
      have : (s.env.set i (.fz d)).length ≤ j := hj
      rw [List.length_set] at this; exact this
    have hi := (List.getElem?_eq_some_iff.mp h).1
    rw [setF_ne (by omega)]
    exact o.er.out j hj'
  · by_cases hj : j = i
    · rw [hj, setF_self]; exact List.nodup_nil
    · rw [setF_ne hj]; exact o.nd j
  · by_cases hj : j = i
    · rw [hj, setF_self] at ha; cases ha
    · rw [setF_ne hj] at ha
      by_cases hl : l = i
      · rw [hl, setF_self] at hb; cases hb
      · rw [setF_ne hl] at hb
        exact o.dj j l a hne ha hb
  · by_cases hj : j = i
    · rw [hj, setF_self] at ha; cases ha
    · rw [setF_ne hj] at ha
      rcases z with z | z
      · exact o.nz j a ha z
      · exact o.dj j i a hj ha z
  · by_cases hj : j = i
    · rw [hj, setF_self] at ha; cases ha
    · rw [setF_ne hj] at ha
      exact o.nF j a ha
  · rcases z with z | z
    · exact o.zb a z
    · exact .inr (o.nb i a z)
  · by_cases hj : j = i
    · rw [hj, setF_self] at ha; cases ha
    · rw [setF_ne hj] at ha
      exact o.nb j a ha
  · rcases z with z | z
    · exact .inl z
    · exact .inr (.inr ⟨i, z⟩)
  · by_cases hj : j = i
    · rw [hj, setF_self]; exact .inr rfl
    · rw [setF_ne hj]; exact .inl rfl
end
end Hx
namespace Hx
open PySem PySem.Spec PyProof.Rows L2
section
variable {K : PySem.W.Frag} {w : World} {C : Str → Addr} {H H' : Hp} {G : Gs}
theorem grow_upd {p : Addr} {o : HO} (h : H p = none) : ∀ a ob, H a = some ob → upd H p o a = some ob := fun a ob e => by
  rw [upd_ne (ne_of_none e h)]; exact e
theorem Val.grow (k : ∀ a ob, H a = some ob → H' a = some ob) {d : D} {n : Nat} {v : V} (h : Val K w C H G d n v) : Val K w C H' G d n v :=
  Val.gen (up := True) (fun a o e _ => k a o e) (fun _ z => z) (fun _ q => .inl q) (fun _ q => q) d n v (.inl trivial) h
theorem Vals'.grow (k : ∀ a ob, H a = some ob → H' a = some ob) {ds : List D} {n : Nat} {vs : List V} (h : Val.Vals' K w C H G ds n vs) : Val.Vals' K w C H' G ds n vs :=
  Vals'.gen (up := True) (fun a o e _ => k a o e) (fun _ z => z) (fun _ q => .inl q) (fun _ q => q) ds n vs (.inl trivial) h
theorem Vals'.length : ∀ {ds : List D} {n : Nat} {vs : List V}, Val.Vals' K w C H G ds n vs → vs.length = ds.length
  | [], _, vs, h => by unfold Val.Vals' at h; rw [h]; rfl
  | d :: ds, n, vs, h => by
    unfold Val.Vals' at h
    obtain ⟨v, r, rfl, _, h2⟩ := h
    rw [List.length_cons, List.length_cons, Vals'.length h2]
theorem Vals'.app : ∀ {ds es : List D} {n : Nat} {vs us : List V}, Val.Vals' K w C H G ds n vs → Val.Vals' K w C H G es n us → Val.Vals' K w C H G (ds ++ es) n (vs ++ us)
  | [], _, _, _, _, h, h2 => by unfold Val.Vals' at h; subst h; exact h2
  | d :: ds, es, n, _, us, h, h2 => by
    unfold Val.Vals' at h
    obtain ⟨v, r, rfl, h1, hr⟩ := h
    rw [List.cons_append, List.cons_append]
    unfold Val.Vals'
    exact ⟨v, r ++ us, rfl, h1, Vals'.app hr h2⟩
theorem Vals'.nth : ∀ {ds : List D} {n : Nat} {vs : List V} {i : Nat} {d : D}, Val.Vals' K w C H G ds n vs → ds[i]? = some d → ∃ v, vs[i]? = some v ∧ Val K w C H G d n v
  | [], _, _, _, _, _, e => by simp at e
  | d :: ds, n, _, 0, _, h, e => by
    unfold Val.Vals' at h
    obtain ⟨v, r, rfl, h1, _⟩ := h
    simp at e; subst e
    exact ⟨v, rfl, h1⟩
  | d :: ds, n, _, i + 1, _, h, e => by
    unfold Val.Vals' at h
    obtain ⟨v, r, rfl, _, h2⟩ := h
    obtain ⟨u, e2, hu⟩ := Vals'.nth (i := i) h2 (by simpa using e)
    exact ⟨u, by simpa using e2, hu⟩
theorem Vals'.take : ∀ {ds : List D} {n : Nat} {vs : List V} (m : Nat), Val.Vals' K w C H G ds n vs → Val.Vals' K w C H G (ds.take m) n (vs.take m)
  | _, _, _, 0, _ => by simp [Val.Vals']
  | [], _, _, m + 1, h => by unfold Val.Vals' at h; subst h; simp [Val.Vals']
  | d :: ds, n, _, m + 1, h => by
    unfold Val.Vals' at h
    obtain ⟨v, r, rfl, h1, h2⟩ := h
    rw [List.take_succ_cons, List.take_succ_cons]
    unfold Val.Vals'
    exact ⟨v, _, rfl, h1, Vals'.take m h2⟩
theorem Vals'.drop : ∀ {ds : List D} {n : Nat} {vs : List V} (m : Nat), Val.Vals' K w C H G ds n vs → Val.Vals' K w C H G (ds.drop m) n (vs.drop m)
  | _, _, _, 0, h => h
  | [], _, _, m + 1, h => by unfold Val.Vals' at h; subst h; simp [Val.Vals']
  | d :: ds, n, _, m + 1, h => by
    unfold Val.Vals' at h
    obtain ⟨v, r, rfl, h1, h2⟩ := h
    exact Vals'.drop m h2
theorem Vals'.rep {ds : List D} {n : Nat} {vs : List V} (h : Val.Vals' K w C H G ds n vs) : ∀ m : Nat, Val.Vals' K w C H G (repL ds m) n (List.replicate m vs).flatten
  | 0 => by simp [repL, Val.Vals']
  | m + 1 => by
    unfold repL
    rw [List.replicate_succ, List.replicate_succ, List.flatten_cons, List.flatten_cons]
    exact Vals'.app h (Vals'.rep h m)
theorem Vals'.rev : ∀ {ds : List D} {n : Nat} {vs : List V}, Val.Vals' K w C H G ds n vs → Val.Vals' K w C H G ds.reverse n vs.reverse
  | [], _, _, h => by unfold Val.Vals' at h; subst h; simp [Val.Vals']
  | d :: ds, n, _, h => by
    unfold Val.Vals' at h
    obtain ⟨v, r, rfl, h1, h2⟩ := h
    rw [List.reverse_cons, List.reverse_cons]
    refine Vals'.app (Vals'.rev h2) ?_
    unfold Val.Vals'
    exact ⟨v, [], rfl, h1, by unfold Val.Vals'; rfl⟩
theorem Owns.zero : ∀ {ds : List D} {vs : List V}, Val.Vals' K w C H G ds 0 vs → Own.Owns K w C H G ds 0 vs []
  | [], vs, h => by unfold Val.Vals' at h; unfold Own.Owns; exact ⟨h, rfl⟩
  | d :: ds, vs, h => by
    unfold Val.Vals' at h
    obtain ⟨v, r, rfl, h1, h2⟩ := h
    unfold Own.Owns
    exact ⟨v, r, [], [], rfl, Own.zero h1, Owns.zero h2, rfl⟩
theorem Owns.of0 : ∀ {ds : List D} {vs : List V} {fp : List Addr}, Own.Owns K w C H G ds 0 vs fp → Val.Vals' K w C H G ds 0 vs ∧ fp = []
  | [], vs, fp, h => by unfold Own.Owns at h; unfold Val.Vals'; exact h
  | d :: ds, vs, fp, h => by
    unfold Own.Owns at h
    obtain ⟨v, r, f1, f2, rfl, h1, h2, rfl⟩ := h
    obtain ⟨a1, rfl⟩ := Own.of0 h1
    obtain ⟨a2, rfl⟩ := Owns.of0 h2
    unfold Val.Vals'
    exact ⟨⟨v, r, rfl, a1, a2⟩, rfl⟩
/-- what a rule of the layer makes: d, new to depth n -/
def NewQ (K : PySem.W.Frag) (w : World) (C : Str → Addr) (H : Hp) (G : Gs) (n : Nat) (d : D) (Q : VK) : Prop :=
  ∀ v H' fp, (∀ a ob, H a = some ob → H' a = some ob) → Own K w C H' G d n v fp → fp.Nodup → (∀ a ∈ fp, H a = none) → Q v H'
variable {Q : VK}
theorem NewQ.int {n : Nat} {i : Int} (q : NewQ K w C H G n (.int i) Q) : Q (.int i) H := q _ H [] (fun _ _ h => h) (by unfold Own Val; exact ⟨rfl, rfl⟩) List.nodup_nil (fun _ h => nomatch h)
theorem NewQ.bl {n : Nat} {i : Bool} (q : NewQ K w C H G n (.bl i) Q) : Q (.bl i) H := q _ H [] (fun _ _ h => h) (by unfold Own Val; exact ⟨rfl, rfl⟩) List.nodup_nil (fun _ h => nomatch h)
theorem NewQ.str {n : Nat} {i : Str} (q : NewQ K w C H G n (.str i) Q) : Q (.str i) H := q _ H [] (fun _ _ h => h) (by unfold Own Val; exact ⟨rfl, rfl⟩) List.nodup_nil (fun _ h => nomatch h)
theorem NewQ.non {n : Nat} (q : NewQ K w C H G n .non Q) : Q .non H := q _ H [] (fun _ _ h => h) (by unfold Own Val; exact ⟨rfl, rfl⟩) List.nodup_nil (fun _ h => nomatch h)
theorem NewQ.lst {ds : List D} {vs : List V} (q : NewQ K w C H G 1 (.lst ds) Q) (h : Val.Vals' K w C H G ds 0 vs) : ∀ p, H p = none → Q (.ref p) (upd H p (.lst vs)) := fun p hp =>
  q _ _ [p] (grow_upd hp) (by unfold Own; exact ⟨p, vs, [], rfl, upd_same, Owns.zero (Vals'.grow (grow_upd hp) h), rfl⟩) (by simp) (fun a ha => by simp at ha; rw [ha]; exact hp)
theorem NewQ.tup {n : Nat} {ds : List D} {vs : List V} (q : NewQ K w C H G n (.tup ds) Q) (h : Val.Vals' K w C H G ds 0 vs) : ∀ p, H p = none → Q (.ref p) (upd H p (.tup vs)) := fun p hp =>
  q _ _ [] (grow_upd hp) (by unfold Own Val; exact ⟨⟨p, vs, rfl, upd_same, Vals'.grow (grow_upd hp) h⟩, rfl⟩) List.nodup_nil (fun _ h => nomatch h)
/-- a tuple that stands already -/
theorem NewQ.old {n : Nat} {ds : List D} {a : Addr} {vs : List V} (q : NewQ K w C H G n (.tup ds) Q) (ha : H a = some (.tup vs)) (h : Val.Vals' K w C H G ds 0 vs) : Q (.ref a) H :=
  q _ _ [] (fun _ _ h => h) (by unfold Own Val; exact ⟨⟨a, vs, rfl, ha, h⟩, rfl⟩) List.nodup_nil (fun _ h => nomatch h)
end
theorem line_eq : line = sizeLine := rfl
section
variable {X : Cx} {C : Str → Addr}
theorem tuple_mul1 (l : Addr) (items : Array Value) (n : Nat) (dd : Option Addr) (sl : Array (Option Value)) (x : Int) (u : Tok) (c0 : (decide (x < -(2 ^ 63)) || decide (x ≥ 2 ^ 63)) = false) (c1 : (items.isEmpty || x == 1) = true) :
    Meets (Builtin.«tuple.__mul__» ⟨[.ref l, .int x u], []⟩) (fun _ R s => s.heap.get? l = some { cls := .type "tuple", dict := dd, data := .seq items n, slots := sl } ∧ R (.ok (.ret (Value.ref l))) s) :=
  .of_wp fun prog w A R s h => by
    obtain ⟨hp, g, d, tk, os⟩ := s
    obtain ⟨hl, h⟩ := h
    have f1 := AutoSeq1.idx_int
    wp_walk using wpAny_loadPart' hl
    repeat (first
      | (refine wpAny_ite_false (decide_eq_false (by rw [c0]; exact Bool.false_ne_true)) ?_; wp_walk using wpAny_loadPart' hl)
      | (refine wpAny_ite_true (decide_eq_true (by rw [c1])) ?_; wp_walk using wpAny_loadPart' hl))
    exact ⟨_, rfl, h⟩
theorem tuple_mul0 (l : Addr) (items : Array Value) (n : Nat) (dd : Option Addr) (sl : Array (Option Value)) (x : Int) (u : Tok) (c0 : (decide (x < -(2 ^ 63)) || decide (x ≥ 2 ^ 63)) = false) (c1 : (items.isEmpty || x == 1) = false) (c2 : (decide (x ≤ 0) || items.isEmpty) = true) :
    Meets (Builtin.«tuple.__mul__» ⟨[.ref l, .int x u], []⟩) (fun _ R s => s.heap.get? l = some { cls := .type "tuple", dict := dd, data := .seq items n, slots := sl } ∧
      R (.ok (.ret (Value.ref s.heap.objs.size))) { s with heap := s.heap.push { cls := Value.type "tuple", data := Data.seq #[] }, toks := s.toks }) :=
  .of_wp fun prog w A R s h => by
    obtain ⟨hp, g, d, tk, os⟩ := s
    obtain ⟨hl, h⟩ := h
    have f1 := AutoSeq1.idx_int
    wp_walk using wpAny_loadPart' hl
    repeat (first
      | (refine wpAny_ite_false (decide_eq_false (by rw [c0]; exact Bool.false_ne_true)) ?_; wp_walk using wpAny_loadPart' hl)
      | (refine wpAny_ite_false (decide_eq_false (by rw [c1]; exact Bool.false_ne_true)) ?_; wp_walk using wpAny_loadPart' hl)
      | (refine wpAny_ite_true (decide_eq_true (by rw [c2])) ?_; wp_walk using wpAny_loadPart' hl)
      | (refine wpAny_ite_false (decide_eq_false (Nat.not_lt.mpr (Nat.zero_le _))) ?_; wp_walk using wpAny_loadPart' hl))
    exact ⟨_, rfl, h⟩
/-- t * k -/
def rRepA (K : PySem.W.Frag) : R2 := fun x y H Q => ∃ l k xs, x = .ref l ∧ y = .int k ∧ SqT K H l xs ∧ 0 ≤ k ∧ k ≤ 1000 ∧ xs.length ≤ 1000 ∧
  ((xs = [] ∨ k = 1) → Q (.ref l) H) ∧ (¬ (xs = [] ∨ k = 1) → ∀ p, H p = none → Q (.ref p) (upd H p (.tup (List.replicate k.toNat xs).flatten)))
theorem op_repA : OpR X (binaryOp .Mult) (rRepA X.K) := by
  intro pins s σ H x y v u Q I rx ry h
  obtain ⟨l, k, xs, rfl, rfl, hT, h1, h2, hz, q1, q2⟩ := h
  by_cases hs : xs = [] ∨ k = 1
  · have q := q1 hs
    cases rx
    obtain ⟨t, rfl⟩ := ry
    obtain ⟨its, r, ⟨⟨cls, dd, data, sl⟩, ho, hc, n, hd⟩, hl⟩ := I.tuple hT
    simp only at hc hd
    subst hc hd
    have c0 : (decide (k < -(2 ^ 63)) || decide (k ≥ 2 ^ 63)) = false := by
      rw [decide_eq_false (by omega), decide_eq_false (by omega)] <;> rfl
    have c1 : (its.toArray.isEmpty || k == 1) = true := by
      rcases hs with e | e
      · subst e
        cases r
        rfl
      · rw [e]; simp
    exact wpAny_binaryOp_repeat_ref (T := "tuple") (U := "int") (by decide) ⟨_, ho, rfl⟩ (fun s' => typeIs_int s' k t) noFill_tuple_mul F.fills_int_mul F.slot_int_rmul repeat_tuple F.slot_int_index.lookup
      (call_meets F.slot_int_rmul (typeIs_int s k t) F.entry_int_rmul (F.args_int_rmul_2 _ _) (int_rmul_tuple k t l its.toArray n dd sl)
        ⟨ho, rfl, ⟨_, ho, rfl⟩, call_meets F.slot_tuple_mul ⟨_, ho, rfl⟩ F.entry_tuple_mul (F.args_tuple_mul_2 _ _) (tuple_mul1 l its.toArray n dd sl k t c0 c1) ⟨ho, .ref l, H, I, rfl, q⟩⟩)
  · have q := q2 hs
    by_cases hk : 2 ≤ k
    · exact op_repT pins s σ H _ _ v u Q I rx ry ⟨l, k, xs, rfl, rfl, hT, (fun e => hs (.inl e)), hk, h2, hz, q⟩
    · have hk0 : k = 0 := by
        have : k ≠ 1 := fun e => hs (.inr e)
        omega
      subst hk0
      cases rx
      obtain ⟨t, rfl⟩ := ry
      obtain ⟨its, r, ⟨⟨cls, dd, data, sl⟩, ho, hc, n, hd⟩, hl⟩ := I.tuple hT
      simp only at hc hd
      subst hc hd
      have hi : its.toArray.isEmpty = false := by
        cases r with
        | nil => exact absurd (.inl rfl) hs
        | cons a b => rfl
      have c1 : (its.toArray.isEmpty || (0 : Int) == 1) = false := by rw [hi]; rfl
      refine wpAny_binaryOp_repeat_ref (T := "tuple") (U := "int") (by decide) ⟨_, ho, rfl⟩ (fun s' => typeIs_int s' 0 t) noFill_tuple_mul F.fills_int_mul F.slot_int_rmul repeat_tuple F.slot_int_index.lookup
        (call_meets F.slot_int_rmul (typeIs_int s 0 t) F.entry_int_rmul (F.args_int_rmul_2 _ _) (int_rmul_tuple 0 t l its.toArray n dd sl)
          ⟨ho, rfl, ⟨_, ho, rfl⟩, call_meets F.slot_tuple_mul ⟨_, ho, rfl⟩ F.entry_tuple_mul (F.args_tuple_mul_2 _ _) (tuple_mul0 l its.toArray n dd sl 0 t (by decide) c1 (by simp)) ⟨ho, ?_⟩⟩)
      have hf : H s.heap.objs.size = none := I.hok.fresh (Nat.le_refl _)
      refine ⟨.ref s.heap.objs.size, upd H s.heap.objs.size (.tup []), I.laid (t' := s.toks) (fun b u e => Heap.get?_push_of_some _ e) (Nat.le_refl _) ?_, rfl, ?_⟩
      · exact ⟨Nat.zero_le _, [], .nil, ⟨_, Heap.get?_push_size _ rfl, rfl, _, rfl⟩⟩
      · have := q s.heap.objs.size hf
        simpa using this
/-- an operator of two data -/
def rBin (K : PySem.W.Frag) (w : World) (C : Str → Addr) (o : Bop) : R2 := fun x y H Q => ∃ G d1 d2 z, Val K w C H G d1 1 x ∧ Val K w C H G d2 1 y ∧ binD o d1 d2 = some z ∧ NewQ K w C H G 1 z Q
def bopPy : Bop → Operator
  | .add => .Add | .sub => .Sub | .mul => .Mult | .fdiv => .FloorDiv | .mod => .Mod | .pow => .Pow
theorem smallI {i : Int} (h : small i = true) : -(2 ^ 64) < i ∧ i < 2 ^ 64 := of_decide_eq_true h
theorem opBin (o : Bop) : OpR X (binaryOp (bopPy o)) (rBin X.K X.w C o) := by
  intro pins s σ H x y v u Q I rx ry h
  obtain ⟨G, d1, d2, z, h1, h2, hb, q⟩ := h
  unfold binD at hb
  split at hb
  · -- ints
    cases hb
    unfold Val at h1 h2; subst h1 h2
    exact op_add pins s σ H _ _ v u Q I rx ry ⟨_, _, rfl, rfl, q.int⟩
  · -- texts
    split at hb
    · rename_i hz
      cases hb
      unfold Val at h1 h2; subst h1 h2
      exact op_add_str pins s σ H _ _ v u Q I rx ry ⟨_, _, rfl, rfl, hz, q.str⟩
    · cases hb
  · -- lists
    split at hb
    · rename_i hz
      cases hb
      unfold Val at h1 h2
      obtain ⟨a, vs, rfl, ha, _, _, hv⟩ := h1
      obtain ⟨b, us, rfl, hb', _, _, hu⟩ := h2
      exact op_cat pins s σ H _ _ v u Q I rx ry ⟨a, b, vs, us, rfl, rfl, ha, hb', by rw [Vals'.length hv, Vals'.length hu]; exact hz, q.lst (Vals'.app hv hu)⟩
    · cases hb
  · -- tuples
    split at hb
    · rename_i xs ys hz
      cases hb
      unfold Val at h1 h2
      obtain ⟨a, vs, rfl, ha, hv⟩ := h1
      obtain ⟨b, us, rfl, hb', hu⟩ := h2
      refine op_catA pins s σ H _ _ v u Q I rx ry ⟨a, b, vs, us, rfl, rfl, SqT.of ha, SqT.of hb', by rw [Vals'.length hv, Vals'.length hu]; exact hz, fun e => ?_, fun _ e => ?_, fun _ _ => q.tup (Vals'.app hv hu)⟩
      · subst e
        cases xs with
        | nil => exact q.old hb' hu
        | cons _ _ => have := Vals'.length hv; simp at this
      · subst e
        cases ys with
        | nil => rw [List.append_nil] at q; exact q.old ha hv
        | cons _ _ => have := Vals'.length hu; simp at this
    · cases hb
  · -- -
    cases hb
    unfold Val at h1 h2; subst h1 h2
    exact op_sub pins s σ H _ _ v u Q I rx ry ⟨_, _, rfl, rfl, q.int⟩
  · -- *
    split at hb
    · rename_i hz
      cases hb
      unfold Val at h1 h2; subst h1 h2
      refine op_mul pins s σ H _ _ v u Q I rx ry ⟨_, _, rfl, rfl, ?_, q.int⟩
      rw [Bool.or_eq_true] at hz
      exact hz.imp smallI smallI
    · cases hb
  · -- list * int
    split at hb
    · rename_i hz
      cases hb
      simp only [Bool.and_eq_true, decide_eq_true_eq] at hz
      unfold Val at h1 h2
      obtain ⟨a, vs, rfl, ha, _, _, hv⟩ := h1
      subst h2
      exact op_rep pins s σ H _ _ v u Q I rx ry ⟨a, _, vs, rfl, rfl, ha, by omega, by omega, by rw [Vals'.length hv]; exact hz.2, q.lst (Vals'.rep hv _)⟩
    · cases hb
  · -- tuple * int
    split at hb
    · rename_i xs j hz
      cases hb
      simp only [Bool.and_eq_true, decide_eq_true_eq] at hz
      unfold Val at h1 h2
      obtain ⟨a, vs, rfl, ha, hv⟩ := h1
      subst h2
      refine op_repA pins s σ H _ _ v u Q I rx ry ⟨a, _, vs, rfl, rfl, SqT.of ha, hz.1.1, hz.1.2, by rw [Vals'.length hv]; exact hz.2, fun e => ?_, fun _ => q.tup (Vals'.rep hv _)⟩
      have e2 : repL xs j.toNat = xs := by
        rcases e with e | e
        · subst e
          cases xs with
          | nil => simp [repL]
          | cons _ _ => have := Vals'.length hv; simp at this
        · subst e; simp [repL]
      rw [e2] at q
      exact q.old ha hv
    · cases hb
  · -- //
    split at hb
    · rename_i hz
      cases hb
      unfold Val at h1 h2; subst h1 h2
      exact op_fdiv pins s σ H _ _ v u Q I rx ry ⟨_, _, rfl, rfl, hz, q.int⟩
    · cases hb
  · -- %
    split at hb
    · rename_i hz
      cases hb
      unfold Val at h1 h2; subst h1 h2
      exact op_mod pins s σ H _ _ v u Q I rx ry ⟨_, _, rfl, rfl, hz, q.int⟩
    · cases hb
  · -- **
    split at hb
    · rename_i hz
      cases hb
      unfold Val at h1 h2; subst h1 h2
      exact op_pow pins s σ H _ _ v u Q I rx ry ⟨_, _, rfl, rfl, hz, q.int⟩
    · cases hb
  · cases hb
end
end Hx
namespace Hx
open PySem PySem.Spec PyProof.Rows L2
def D.py : D → PyData
  | .bl b => .bool b
  | .int i => .int i
  | .str x => .str x
  | .tup xs => .tuple (pys xs)
  | .lst xs => .list (pys xs)
  | _ => .none
where pys : List D → List PyData
  | [] => []
  | x :: xs => x.py :: pys xs
theorem b2i_eq (b : Bool) : b2i b = if b = true then 1 else 0 := rfl
mutual
theorem py_eqv : ∀ (a b : D), a.plain = true → b.plain = true → PyData.eqv a.py b.py = a.eqv b
  | .non, b, _, hb => by cases b <;> first | rfl | (simp [D.plain] at hb; done) | (simp [D.py, PyData.eqv, D.eqv]; done)
  | .bl x, b, _, hb => by cases b <;> first | (simp [D.plain] at hb; done) | (simp [D.py, PyData.eqv, D.eqv, b2i]; done)
  | .int x, b, _, hb => by cases b <;> first | (simp [D.plain] at hb; done) | (simp [D.py, PyData.eqv, D.eqv, b2i]; done)
  | .str x, b, _, hb => by cases b <;> first | (simp [D.plain] at hb; done) | (simp [D.py, PyData.eqv, D.eqv]; done)
  | .tup xs, b, ha, hb => by
    cases b with
    | tup ys =>
      unfold D.plain at ha hb
      simp only [D.py, PyData.eqv, D.eqv]
      exact pys_eqv xs ys ha hb
    | _ => first | (simp [D.plain] at hb; done) | (simp [D.py, PyData.eqv, D.eqv]; done)
  | .lst xs, b, ha, hb => by
    cases b with
    | lst ys =>
      unfold D.plain at ha hb
      simp only [D.py, PyData.eqv, D.eqv]
      exact pys_eqv xs ys ha hb
    | _ => first | (simp [D.plain] at hb; done) | (simp [D.py, PyData.eqv, D.eqv]; done)
  | .dic _ _, _, ha, _ => by simp [D.plain] at ha
  | .exc _ _, _, ha, _ => by simp [D.plain] at ha
  | .town, _, ha, _ => by simp [D.plain] at ha
  | .scr _, _, ha, _ => by simp [D.plain] at ha
theorem pys_eqv : ∀ (xs ys : List D), D.plain.plains xs = true → D.plain.plains ys = true → PyData.eqvAll (D.py.pys xs) (D.py.pys ys) = D.eqv.eqvs xs ys
  | [], [], _, _ => by simp [D.py.pys, PyData.eqvAll, D.eqv.eqvs]
  | [], _ :: _, _, _ => by simp [D.py.pys, PyData.eqvAll, D.eqv.eqvs]
  | _ :: _, [], _, _ => by simp [D.py.pys, PyData.eqvAll, D.eqv.eqvs]
  | x :: xs, y :: ys, ha, hb => by
    simp only [D.plain.plains, Bool.and_eq_true] at ha hb
    simp only [D.py.pys, PyData.eqvAll, D.eqv.eqvs]
    rw [py_eqv x y ha.1 hb.1, pys_eqv xs ys ha.2 hb.2]
end
mutual
theorem py_depth : ∀ (a : D), a.plain = true → a.py.depth = a.depth
  | .non, _ => by simp [D.py, PyData.depth, D.depth]
  | .bl x, _ => by simp [D.py, PyData.depth, D.depth]
  | .int x, _ => by simp [D.py, PyData.depth, D.depth]
  | .str x, _ => by simp [D.py, PyData.depth, D.depth]
  | .tup xs, h => by unfold D.plain at h; simp only [D.py, PyData.depth, D.depth]; rw [pys_depth xs h]
  | .lst xs, h => by unfold D.plain at h; simp only [D.py, PyData.depth, D.depth]; rw [pys_depth xs h]
  | .dic _ _, h => by simp [D.plain] at h
  | .exc _ _, h => by simp [D.plain] at h
  | .town, h => by simp [D.plain] at h
  | .scr _, h => by simp [D.plain] at h
theorem pys_depth : ∀ (xs : List D), D.plain.plains xs = true → PyData.depthAll (D.py.pys xs) = D.depth.deps xs
  | [], _ => by simp [D.py.pys, PyData.depthAll, D.depth.deps]
  | x :: xs, h => by
    simp only [D.plain.plains, Bool.and_eq_true] at h
    simp only [D.py.pys, PyData.depthAll, D.depth.deps]
    rw [py_depth x h.1, pys_depth xs h.2]
end
mutual
theorem py_lay : ∀ (a : D), a.plain = true → a.py.canLay0 = true
  | .non, _ => by simp [D.py, PyData.canLay0]
  | .bl x, _ => by simp [D.py, PyData.canLay0]
  | .int x, _ => by simp [D.py, PyData.canLay0]
  | .str x, h => by unfold D.plain at h; simp [D.py, PyData.canLay0, h]
  | .tup xs, h => by unfold D.plain at h; simp only [D.py, PyData.canLay0]; exact pys_lay xs h
  | .lst xs, h => by unfold D.plain at h; simp only [D.py, PyData.canLay0]; exact pys_lay xs h
  | .dic _ _, h => by simp [D.plain] at h
  | .exc _ _, h => by simp [D.plain] at h
  | .town, h => by simp [D.plain] at h
  | .scr _, h => by simp [D.plain] at h
theorem pys_lay : ∀ (xs : List D), D.plain.plains xs = true → PyData.canLayAll0 (D.py.pys xs) = true
  | [], _ => by simp [D.py.pys, PyData.canLayAll0]
  | x :: xs, h => by
    simp only [D.plain.plains, Bool.and_eq_true] at h
    simp only [D.py.pys, PyData.canLayAll0, Bool.and_eq_true]
    exact ⟨py_lay x h.1, pys_lay xs h.2⟩
end
theorem okEq_shaped {a : D} (h : okEq a = true) : a.plain = true ∧ SeqAt.shaped a.py = true ∧ a.depth ≤ 60 := by
  unfold okEq at h
  rw [Bool.and_eq_true, decide_eq_true_eq] at h
  refine ⟨h.1, ?_, h.2⟩
  unfold SeqAt.shaped
  rw [py_lay a h.1, py_depth a h.1, decide_eq_true (by omega : a.depth ≤ 64)]
  rfl
section
variable {K : PySem.W.Frag} {w : World} {C : Str → Addr} {H : Hp} {G : Gs}
mutual
theorem Val.dp : ∀ (d : D) (n : Nat) (v : V), d.plain = true → Val K w C H G d n v → Dp K H v d.py
  | .non, _, _, _, h => by unfold Val at h; subst h; exact .non
  | .bl b, _, _, _, h => by unfold Val at h; subst h; exact .bl b
  | .int i, _, _, _, h => by unfold Val at h; subst h; exact .int i
  | .str x, _, _, _, h => by unfold Val at h; subst h; exact .str x
  | .tup xs, _, _, hp, h => by
    unfold Val at h
    unfold D.plain at hp
    obtain ⟨a, vs, rfl, ha, hv⟩ := h
    exact .tup (SqT.of ha) (Vals'.dp xs 0 vs hp hv)
  | .lst xs, n, _, hp, h => by
    unfold Val at h
    unfold D.plain at hp
    obtain ⟨a, vs, rfl, ha, _, _, hv⟩ := h
    exact .lst (SqL.of ha) (Vals'.dp xs _ vs hp hv)
  | .dic _ _, _, _, hp, _ => by simp [D.plain] at hp
  | .exc _ _, _, _, hp, _ => by simp [D.plain] at hp
  | .town, _, _, hp, _ => by simp [D.plain] at hp
  | .scr _, _, _, hp, _ => by simp [D.plain] at hp
theorem Vals'.dp : ∀ (ds : List D) (n : Nat) (vs : List V), D.plain.plains ds = true → Val.Vals' K w C H G ds n vs → DpAll K H vs (D.py.pys ds)
  | [], _, _, _, h => by unfold Val.Vals' at h; subst h; exact .nil
  | d :: ds, n, _, hp, h => by
    unfold Val.Vals' at h
    obtain ⟨v, r, rfl, h1, h2⟩ := h
    simp only [D.plain.plains, Bool.and_eq_true] at hp
    exact .cons (Val.dp d n v hp.1 h1) (Vals'.dp ds n r hp.2 h2)
end
end
mutual
theorem py_alike : ∀ (a b : D), a.alike b = true → PySem.W.alike a.py b.py = true
  | .non, b, h => by cases b <;> first | rfl | (simp [D.alike] at h; done) | (simp [D.py, PySem.W.alike]; done)
  | .bl x, b, h => by cases b <;> first | (simp [D.alike] at h; done) | (simp [D.py, PySem.W.alike]; done)
  | .int x, b, h => by cases b <;> first | (simp [D.alike] at h; done) | (simp [D.py, PySem.W.alike]; done)
  | .str x, b, h => by cases b <;> first | (simp [D.alike] at h; done) | (simp [D.py, PySem.W.alike]; done)
  | .tup xs, b, h => by
    cases b with
    | tup ys => simp only [D.alike] at h; simp only [D.py, PySem.W.alike]; exact pys_alike xs ys h
    | _ => simp [D.alike] at h
  | .lst xs, b, h => by
    cases b with
    | lst ys => simp only [D.alike] at h; simp only [D.py, PySem.W.alike]; exact pys_alike xs ys h
    | _ => simp [D.alike] at h
  | .dic _ _, b, h => by simp [D.alike] at h
  | .exc _ _, b, h => by simp [D.alike] at h
  | .town, b, h => by simp [D.alike] at h
  | .scr _, b, h => by simp [D.alike] at h
theorem pys_alike : ∀ (xs ys : List D), D.alike.alikes xs ys = true → PySem.W.alikeAll (D.py.pys xs) (D.py.pys ys) = true
  | [], _, _ => by simp [D.py.pys, PySem.W.alikeAll]
  | x :: xs, [], _ => by simp [D.py.pys, PySem.W.alikeAll]
  | x :: xs, y :: ys, h => by
    simp only [D.alike.alikes, Bool.and_eq_true] at h
    simp only [D.py.pys, PySem.W.alikeAll, Bool.and_eq_true]
    exact ⟨py_alike x y h.1, pys_alike xs ys h.2⟩
end
mutual
theorem py_lt : ∀ (a b : D), a.plain = true → b.plain = true → a.alike b = true → a ≠ .non → PySem.W.dataLt a.py b.py = a.lt b
  | .non, b, _, _, _, hn => absurd rfl hn
  | .bl x, b, _, _, h, _ => by
    cases b with
    | bl y => simp only [D.py, D.lt]; rw [PySem.W.dataLt_bool]; cases x <;> cases y <;> decide
    | _ => simp [D.alike] at h
  | .int x, b, _, _, h, _ => by
    cases b with
    | int y => simp only [D.py, D.lt]; rw [PySem.W.dataLt_int]
    | _ => simp [D.alike] at h
  | .str x, b, _, _, h, _ => by
    cases b with
    | str y => simp only [D.py, D.lt]; rw [PySem.W.dataLt_str]; rfl
    | _ => simp [D.alike] at h
  | .tup xs, b, ha, hb, h, _ => by
    cases b with
    | tup ys =>
      simp only [D.alike] at h
      unfold D.plain at ha hb
      simp only [D.py, D.lt]
      rw [PySem.W.dataLt_tuple]
      exact pys_lt xs ys ha hb h
    | _ => simp [D.alike] at h
  | .lst xs, b, ha, hb, h, _ => by
    cases b with
    | lst ys =>
      simp only [D.alike] at h
      unfold D.plain at ha hb
      simp only [D.py, D.lt]
      rw [PySem.W.dataLt_list]
      exact pys_lt xs ys ha hb h
    | _ => simp [D.alike] at h
  | .dic _ _, b, _, _, h, _ => by simp [D.alike] at h
  | .exc _ _, b, _, _, h, _ => by simp [D.alike] at h
  | .town, b, _, _, h, _ => by simp [D.alike] at h
  | .scr _, b, _, _, h, _ => by simp [D.alike] at h
theorem pys_lt : ∀ (xs ys : List D), D.plain.plains xs = true → D.plain.plains ys = true → D.alike.alikes xs ys = true → PyProof.Rows.lexLt PyProof.Rows.itemOrd (PySem.W.keyToksAll (D.py.pys xs)) (PySem.W.keyToksAll (D.py.pys ys)) = D.lt.lts xs ys
  | [], [], _, _, _ => by simp [D.py.pys, D.lt.lts]; decide
  | [], y :: ys, _, _, _ => by simp only [D.py.pys, D.lt.lts, PySem.W.keyToksAll]; rfl
  | x :: xs, [], _, _, _ => by simp only [D.py.pys, D.lt.lts, PySem.W.keyToksAll]; rfl
  | x :: xs, y :: ys, ha, hb, h => by
    simp only [D.plain.plains, Bool.and_eq_true] at ha hb
    simp only [D.alike.alikes, Bool.and_eq_true] at h
    simp only [D.py.pys, D.lt.lts]
    have e := py_eqv x y ha.1 hb.1
    cases q : x.eqv y with
    | true =>
      rw [PySem.W.dataLt_all_yes (py_alike x y h.1) (e.trans q), if_pos rfl]
      exact pys_lt xs ys ha.2 hb.2 h.2
    | false =>
      rw [PySem.W.dataLt_all_no (py_alike x y h.1) (e.trans q), if_neg (by decide)]
      refine py_lt x y ha.1 hb.1 h.1 ?_
      rintro rfl
      cases y <;> simp [D.alike, D.eqv] at h q
end
end Hx
namespace Hx
open PySem PySem.Spec PyProof.Rows L2
mutual
theorem eqv_comm : ∀ (a b : D), a.eqv b = b.eqv a
  | .non, b => by cases b <;> simp [D.eqv]
  | .bl x, b => by cases b <;> simp [D.eqv, Bool.beq_comm] <;> first | rfl | exact Bool.eq_iff_iff.mpr ⟨fun h => by simpa using (by simpa using h : b2i x = _).symm, fun h => by simpa using (by simpa using h : _ = b2i x).symm⟩
  | .int x, b => by cases b <;> simp [D.eqv] <;> exact Bool.eq_iff_iff.mpr ⟨fun h => by simpa using (by simpa using h : x = _).symm, fun h => by simpa using (by simpa using h : _ = x).symm⟩
  | .str x, b => by cases b <;> simp [D.eqv] <;> exact Bool.eq_iff_iff.mpr ⟨fun h => by simpa using (by simpa using h : x = _).symm, fun h => by simpa using (by simpa using h : _ = x).symm⟩
  | .tup xs, b => by
    cases b with
    | tup ys => simp only [D.eqv]; exact eqvs_comm xs ys
    | _ => simp [D.eqv]
  | .lst xs, b => by
    cases b with
    | lst ys => simp only [D.eqv]; exact eqvs_comm xs ys
    | _ => simp [D.eqv]
  | .dic _ _, b => by cases b <;> simp [D.eqv]
  | .exc _ _, b => by cases b <;> simp [D.eqv]
  | .town, b => by cases b <;> simp [D.eqv]
  | .scr _, b => by cases b <;> simp [D.eqv]
theorem eqvs_comm : ∀ (xs ys : List D), D.eqv.eqvs xs ys = D.eqv.eqvs ys xs
  | [], [] => rfl
  | [], _ :: _ => by simp [D.eqv.eqvs]
  | _ :: _, [] => by simp [D.eqv.eqvs]
  | x :: xs, y :: ys => by simp only [D.eqv.eqvs]; rw [eqv_comm x y, eqvs_comm xs ys]
end
theorem alike_comm' (a b : D) (h : a.alike b = true) : a = .non ∨ a ≠ .non := by cases a <;> simp
def copPy : Cop → CmpOp
  | .eq => .Eq | .ne => .NotEq | .lt => .Lt | .le => .LtE | .gt => .Gt | .ge => .GtE | .isn => .Is | .nis => .IsNot | .inn => .In | .nin => .NotIn
theorem ordOk_out {a b : D} (h : ordOk a b = true) : (a.plain = true ∧ SeqAt.shaped a.py = true ∧ a.depth ≤ 60) ∧ (b.plain = true ∧ SeqAt.shaped b.py = true ∧ b.depth ≤ 60) ∧ a.alike b = true ∧ a ≠ .non := by
  unfold ordOk at h
  simp only [Bool.and_eq_true] at h
  refine ⟨okEq_shaped h.1.1.1, okEq_shaped h.1.1.2, h.1.2, ?_⟩
  rintro rfl
  simp [isNon] at h
theorem alike_symm : ∀ (a b : D), a.plain = true → b.plain = true → a.alike b = true → PySem.W.alike b.py a.py = true := fun a b _ _ h => by
  rw [PySem.W.alike_comm]; exact py_alike a b h
theorem py_lt' {a b : D} (h : ordOk a b = true) : PySem.W.dataLt a.py b.py = a.lt b := by
  obtain ⟨h1, h2, h3, h4⟩ := ordOk_out h
  exact py_lt a b h1.1 h2.1 h3 h4
theorem alike_non : ∀ (b : D), D.alike .non b = true → b = .non := fun b h => by cases b <;> simp_all [D.alike]
mutual
theorem dalike_comm : ∀ (a b : D), a.alike b = b.alike a
  | .non, b => by cases b <;> simp [D.alike]
  | .bl _, b => by cases b <;> simp [D.alike]
  | .int _, b => by cases b <;> simp [D.alike]
  | .str _, b => by cases b <;> simp [D.alike]
  | .tup xs, b => by cases b <;> simp [D.alike]; exact dalikes_comm _ _
  | .lst xs, b => by cases b <;> simp [D.alike]; exact dalikes_comm _ _
  | .dic _ _, b => by cases b <;> simp [D.alike]
  | .exc _ _, b => by cases b <;> simp [D.alike]
  | .town, b => by cases b <;> simp [D.alike]
  | .scr _, b => by cases b <;> simp [D.alike]
theorem dalikes_comm : ∀ (a b : List D), D.alike.alikes a b = D.alike.alikes b a
  | [], [] => rfl
  | [], _ :: _ => by simp [D.alike.alikes]
  | _ :: _, [] => by simp [D.alike.alikes]
  | x :: xs, y :: ys => by simp only [D.alike.alikes]; rw [dalike_comm x y, dalikes_comm xs ys]
end
theorem ordOk_swap {a b : D} (h : ordOk a b = true) : ordOk b a = true := by
  obtain ⟨h1, h2, h3, h4⟩ := ordOk_out h
  unfold ordOk at h ⊢
  simp only [Bool.and_eq_true] at h ⊢
  refine ⟨⟨⟨h.1.1.2, h.1.1.1⟩, by rw [dalike_comm]; exact h3⟩, ?_⟩
  cases b <;> first | rfl | skip
  rw [dalike_comm] at h3
  exact absurd (alike_non a h3) h4
theorem pys_any (d : D) (hd : d.plain = true) : ∀ (ds : List D), D.plain.plains ds = true → (D.py.pys ds).any (fun z => PyData.eqv z d.py) = memD d ds
  | [], _ => rfl
  | x :: xs, h => by
    simp only [D.plain.plains, Bool.and_eq_true] at h
    simp only [D.py.pys, List.any_cons, memD]
    rw [py_eqv x d h.1 hd, pys_any d hd xs h.2]
section
variable {X : Cx} {C : Str → Addr}
theorem py_ne {a : D} (h : a.plain = true) (hn : a ≠ .non) : a.py ≠ .none := by
  cases a <;> first | (exact absurd rfl hn) | (simp [D.plain] at h; done) | (simp [D.py]; done)
theorem sign_eq {a : Str} (h : a.cps.size = 1) : (⟨#[a.cps.getD 0 0]⟩ : Str) = a := by
  obtain ⟨cs⟩ := a
  obtain ⟨l⟩ := cs
  match l, h with
  | [c], _ => rfl
/-- a test of two data -/
def rCmp (K : PySem.W.Frag) (w : World) (C : Str → Addr) (o : Cop) : R2 := fun x y H Q => ∃ G d1 d2 t, Val K w C H G d1 99 x ∧ Val K w C H G d2 99 y ∧ cmpD o d1 d2 = some t ∧ Q (.bl t) H
def isDic : D → Bool
  | .dic _ _ => true
  | _ => false
theorem val_non {K : PySem.W.Frag} {w : World} {H : Hp} {G : Gs} {d : D} {n : Nat} {v : V} (h : Val K w C H G d n v) : v = .non ↔ d = .non := by
  cases d <;> unfold Val at h
  case non => simp [h]
  case bl => simp [h]
  case int => simp [h]
  case str => simp [h]
  all_goals (first | (obtain ⟨a, _, e, _⟩ := h; simp [e]; done) | (obtain ⟨a, e, _⟩ := h; simp [e]; done))
theorem opCmp0 (hu : X.A.units + 65 < cLine) (o : Cop) {pins : List (Addr × Obj)} {s : Shared} {σ : L2.St} {H : Hp} {x y : V} {v u : Value} {Q : VK} (I : Inv X pins σ H s) (rx : RelV x v) (ry : RelV y u)
    {G : Gs} {d1 d2 : D} {t : Bool} (h1 : Val X.K X.w C H G d1 99 x) (h2 : Val X.K X.w C H G d2 99 y) (hc : cmpD o d1 d2 = some t) (q : Q (.bl t) H) :
    wpAny (model X.prog X.w) X.A (compareOp (copPy o) v u) (EP X pins σ Q) X.xe s := by
  have rd : ∀ {d : D} {x : V} {v : Value}, okEq d = true → Val X.K X.w C H G d 99 x → RelV x v → ∃ as, Reads s.heap v d.py as := fun h hv r => Dp.reads I _ _ _ (Val.dp _ _ _ (okEq_shaped h).1 hv) r
  unfold cmpD at hc
  split at hc
  · split at hc
    · rename_i hz
      cases hc
      rw [Bool.and_eq_true] at hz
      refine op_eqD (by omega) pins s σ H _ _ v u Q I rx ry ⟨_, _, Val.dp _ _ _ (okEq_shaped hz.1).1 h1, Val.dp _ _ _ (okEq_shaped hz.2).1 h2, (okEq_shaped hz.1).2.1, (okEq_shaped hz.2).2.1, ?_⟩
      rw [py_eqv _ _ (okEq_shaped hz.1).1 (okEq_shaped hz.2).1]; exact q
    · cases hc
  · split at hc
    · rename_i hz
      cases hc
      rw [Bool.and_eq_true] at hz
      refine op_neD (by omega) pins s σ H _ _ v u Q I rx ry ⟨_, _, Val.dp _ _ _ (okEq_shaped hz.1).1 h1, Val.dp _ _ _ (okEq_shaped hz.2).1 h2, (okEq_shaped hz.1).2.1, (okEq_shaped hz.2).2.1, ?_⟩
      rw [py_eqv _ _ (okEq_shaped hz.1).1 (okEq_shaped hz.2).1]; exact q
    · cases hc
  · split at hc
    · rename_i hz
      cases hc
      obtain ⟨a1, a2, a3, a4⟩ := ordOk_out hz
      obtain ⟨as, r1⟩ := Dp.reads I _ _ _ (Val.dp _ _ _ a1.1 h1) rx
      obtain ⟨bs, r2⟩ := Dp.reads I _ _ _ (Val.dp _ _ _ a2.1 h2) ry
      exact PySem.W.lt_data r1 r2 (py_alike _ _ a3) (py_ne a1.1 a4) (by rw [py_depth _ a1.1, py_depth _ a2.1]; omega) ⟨.bl _, H, I, rfl, by rw [py_lt' hz]; exact q⟩
    · cases hc
  · split at hc
    · rename_i hz
      cases hc
      obtain ⟨a1, a2, a3, a4⟩ := ordOk_out hz
      obtain ⟨as, r1⟩ := Dp.reads I _ _ _ (Val.dp _ _ _ a1.1 h1) rx
      obtain ⟨bs, r2⟩ := Dp.reads I _ _ _ (Val.dp _ _ _ a2.1 h2) ry
      exact PySem.W.gt_data r1 r2 (py_alike _ _ a3) (py_ne a1.1 a4) (by rw [py_depth _ a1.1, py_depth _ a2.1]; omega) ⟨.bl _, H, I, rfl, by rw [py_lt' (ordOk_swap hz)]; exact q⟩
    · cases hc
  · split at hc
    · rename_i hz
      cases hc
      obtain ⟨a1, a2, a3, a4⟩ := ordOk_out hz
      obtain ⟨as, r1⟩ := Dp.reads I _ _ _ (Val.dp _ _ _ a1.1 h1) rx
      obtain ⟨bs, r2⟩ := Dp.reads I _ _ _ (Val.dp _ _ _ a2.1 h2) ry
      exact PySem.W.le_data r1 r2 (py_alike _ _ a3) (py_ne a1.1 a4) (by rw [py_depth _ a1.1, py_depth _ a2.1]; omega) ⟨.bl _, H, I, rfl, by rw [py_lt' (ordOk_swap hz)]; exact q⟩
    · cases hc
  · split at hc
    · rename_i hz
      cases hc
      obtain ⟨a1, a2, a3, a4⟩ := ordOk_out hz
      obtain ⟨as, r1⟩ := Dp.reads I _ _ _ (Val.dp _ _ _ a1.1 h1) rx
      obtain ⟨bs, r2⟩ := Dp.reads I _ _ _ (Val.dp _ _ _ a2.1 h2) ry
      exact PySem.W.ge_data r1 r2 (py_alike _ _ a3) (py_ne a1.1 a4) (by rw [py_depth _ a1.1, py_depth _ a2.1]; omega) ⟨.bl _, H, I, rfl, by rw [py_lt' hz]; exact q⟩
    · cases hc
  · cases hc
    unfold Val at h1 h2; subst h1 h2
    exact op_isN pins s σ H _ _ v u Q I rx ry ⟨rfl, by simpa using q⟩
  · rename_i hd
    cases hc
    have : x ≠ .non := fun e => hd ((val_non h1).mp e)
    unfold Val at h2; subst h2
    exact op_isN pins s σ H _ _ v u Q I rx ry ⟨rfl, by simpa [this] using q⟩
  · rename_i a b
    cases hc
    unfold Val at h1 h2; subst h1 h2
    exact op_isBl pins s σ H _ _ v u Q I rx ry ⟨a, b, rfl, rfl, by rw [show decide (a = b) = (a == b) from by cases a <;> cases b <;> rfl]; exact q⟩
  · cases hc
    unfold Val at h1 h2; subst h1 h2
    exact op_notN pins s σ H _ _ v u Q I rx ry ⟨rfl, by simpa using q⟩
  · rename_i hd
    cases hc
    have : x ≠ .non := fun e => hd ((val_non h1).mp e)
    unfold Val at h2; subst h2
    exact op_notN pins s σ H _ _ v u Q I rx ry ⟨rfl, by simpa [this] using q⟩
  · rename_i a b
    cases hc
    unfold Val at h1 h2; subst h1 h2
    exact op_notBl pins s σ H _ _ v u Q I rx ry ⟨a, b, rfl, rfl, by rw [show (!decide (a = b)) = !(a == b) from by cases a <;> cases b <;> rfl]; exact q⟩
  · split at hc
    · rename_i d ys hz
      cases hc
      rw [Bool.and_eq_true] at hz
      have p1 := okEq_shaped hz.1
      have p2 := okEq_shaped hz.2
      refine op_inD hu pins s σ H _ _ v u Q I rx ry ⟨_, D.py.pys ys, Val.dp _ _ _ p1.1 h1, by simpa only [D.py] using Val.dp _ _ _ p2.1 h2, p1.2.1, by simpa only [D.py] using p2.2.1, ?_⟩
      rw [pys_any _ p1.1 _ (by simpa only [D.plain] using p2.1)]; exact q
    · cases hc
  · split at hc
    · rename_i a b hz
      cases hc
      unfold Val at h1 h2; subst h1 h2
      refine op_in_sign pins s σ H _ _ v u Q I rx ry ⟨a.cps.getD 0 0, b, ?_, rfl, q⟩
      rw [sign_eq hz]
    · cases hc
  · split at hc
    · rename_i d ys hz
      cases hc
      rw [Bool.and_eq_true] at hz
      have p1 := okEq_shaped hz.1
      have p2 := okEq_shaped hz.2
      refine op_notInD hu pins s σ H _ _ v u Q I rx ry ⟨_, D.py.pys ys, Val.dp _ _ _ p1.1 h1, by simpa only [D.py] using Val.dp _ _ _ p2.1 h2, p1.2.1, by simpa only [D.py] using p2.2.1, ?_⟩
      rw [pys_any _ p1.1 _ (by simpa only [D.plain] using p2.1)]; exact q
    · cases hc
  · split at hc
    · rename_i a b hz
      cases hc
      unfold Val at h1 h2; subst h1 h2
      refine op_notIn_sign pins s σ H _ _ v u Q I rx ry ⟨a.cps.getD 0 0, b, ?_, rfl, q⟩
      rw [sign_eq hz]
    · cases hc
  · cases hc
theorem opCmp (hu : X.A.units + 65 < cLine) (o : Cop) : OpR X (compareOp (copPy o)) (rCmp X.K X.w C o) := fun pins s σ H x y v u Q I rx ry ⟨G, d1, d2, t, h1, h2, hc, q⟩ => opCmp0 hu o I rx ry h1 h2 hc q
end
end Hx
namespace Hx
open PySem PySem.Spec PyProof.Rows L2
section
variable {K : PySem.W.Frag} {w : World} {C : Str → Addr} {H0 Hb H H' H1 H2 : Hp} {G0 Gb G G' G1 G2 : Gs} {fpsb fps fps' fps1 fps2 : Nat → List Addr} {σ : List (Option V)} {s s' s1 : St} {W : WX} {Q : VK}
theorem Stv.live (st : Stv H G fps H' G' fps') (f : Fresh Hb G fps fp) : ∀ a ∈ fp, H a ≠ none → ¬ G'.Z a := fun a ha hl z => by
  rcases st.zn a z with z | z | ⟨i, z⟩
  · exact f.nz a ha z
  · exact hl z
  · exact f.dj i a ha z
/-- a temporary, one expression further -/
theorem Fresh.step (f : Fresh Hb G fps fp) (hl : ∀ a ∈ fp, H a ≠ none) (st : Stv H G fps H' G' fps') : Fresh Hb G' fps' fp := by
  refine ⟨f.nd, f.new, fun a ha => st.live f a ha (hl a ha), fun a ha z => ?_, fun i a ha z => ?_⟩
  · rcases st.stp.fn a z with z | z
    · exact f.nF a ha z
    · exact hl a ha z
  · rcases st.sub i with e | e
    · rw [e] at z; exact f.dj i a ha z
    · rw [e] at z; cases z
theorem Own.live {d : D} {n : Nat} {v : V} {fp : List Addr} (h : Own K w C H G d n v fp) : ∀ a ∈ fp, H a ≠ none := fun a ha => by
  rcases Own.there _ _ _ _ h a ha with ⟨_, e⟩ | ⟨_, e⟩ <;> (rw [e]; simp)
theorem Owns.live {d : List D} {n : Nat} {v : List V} {fp : List Addr} (h : Own.Owns K w C H G d n v fp) : ∀ a ∈ fp, H a ≠ none := fun a ha => by
  rcases Owns.there _ _ _ _ h a ha with ⟨_, e⟩ | ⟨_, e⟩ <;> (rw [e]; simp)
theorem Stv.there (st : Stv H G fps H' G' fps') {a : Addr} (h : H a ≠ none) (g : GI H' G') : H' a ≠ none := fun e => h (st.stp.none' g e)
/-- a temporary is never changed again -/
theorem Ok.cool (o : Ok K w C H0 G0 σ H s fps G) (f : Fresh Hb G fps fp) (st : Stv Hb Gb fpsb H G fps) (hl : ∀ a ∈ fp, H a ≠ none) (b0 : ∀ a, Hb a = none → H0 a = none) :
    Ok K w C H0 G0 σ H s fps (G.cool fp) ∧ Stv Hb Gb fpsb H (G.cool fp) fps := by
  have s1 : Stp H G H (G.cool fp) := .grow (fun _ _ h => h) (fun a z => Or.inl z) rfl rfl
  refine ⟨⟨⟨fun a z => ?_, fun a z => ?_, o.gi.fl⟩, ?_, ⟨o.er.len, fun i sl x h1 h2 => (o.er.at_ i sl x h1 h2).mono s1 o.gi (o.nF i), o.er.out⟩, o.nd, o.dj, fun i a ha z => ?_, o.nF, o.base.trans s1, fun a z => ?_, o.nb⟩, ⟨st.stp.trans s1, fun a z => ?_, st.sub⟩⟩
  · rcases z with z | z
    · exact o.gi.zf a z
    · exact f.nF a z
  · rcases z with z | z
    · exact o.gi.zh a z
    · exact hl a z
  · have wr := o.wr
    cases hw : s.w with
    | none => rw [hw] at wr; exact wr
    | some p => rw [hw] at wr; exact wr
  · rcases z with z | z
    · exact o.nz i a ha z
    · exact f.dj i a z ha
  · rcases z with z | z
    · exact o.zb a z
    · exact .inr (b0 a (f.new a z))
  · rcases z with z | z
    · exact st.zn a z
    · exact .inr (.inl (f.new a z))
theorem Ok.none0 (o : Ok K w C H0 G0 σ H s fps G) : ∀ a, H a = none → H0 a = none := fun a h => o.base.none' o.gi h
theorem Own.zle' {G' : Gs} (z : ∀ a, G.Z a → G'.Z a) (f : G'.F = G.F) (t : G'.t = G.t) {d : D} {n : Nat} {v : V} {fp : List Addr} (h : Own K w C H G d n v fp) : Own K w C H G' d n v fp :=
  Own.gen (up := True) (fun _ _ e _ => e) z (fun a q => .inl (by rw [← f]; exact q)) (fun a q => by rw [t]; exact q) d n v fp h fun _ _ _ e => e
theorem Owns.zle' {G' : Gs} (z : ∀ a, G.Z a → G'.Z a) (f : G'.F = G.F) (t : G'.t = G.t) {d : List D} {n : Nat} {v : List V} {fp : List Addr} (h : Own.Owns K w C H G d n v fp) : Own.Owns K w C H G' d n v fp :=
  Owns.gen (up := True) (fun _ _ e _ => e) z (fun a q => .inl (by rw [← f]; exact q)) (fun a q => by rw [t]; exact q) d n v fp h fun _ _ _ e => e
mutual
/-- less of it is owned: the rest is never changed again -/
theorem Own.cut : ∀ (d : D) (n m : Nat) (v : V) (fp : List Addr), n ≤ m → Own K w C H G d m v fp → (∀ a ∈ fp, ¬ G.F a) → ∃ fp1 fp2, fp.Perm (fp1 ++ fp2) ∧ Own K w C H (G.cool fp2) d n v fp1
  | .lst xs, 0, m, v, fp, _, h, hf => ⟨[], fp, .refl _, Own.zero (Own.freeze _ _ _ _ h hf)⟩
  | .lst xs, n + 1, m, v, fp, hn, h, hf => by
    obtain ⟨m, rfl⟩ : ∃ m', m = m' + 1 := ⟨m - 1, by omega⟩
    unfold Own at h
    obtain ⟨a, vs, fps, e, ha, ho, rfl⟩ := h
    obtain ⟨f1, f2, e1, e3⟩ := Owns.cut xs n m vs fps (by omega) ho fun b hb => hf b (List.mem_cons_of_mem _ hb)
    refine ⟨a :: f1, f2, e1.cons a, ?_⟩
    · unfold Own
      exact ⟨a, vs, f1, e, ha, e3, rfl⟩
  | .dic ks ws, 0, m, v, fp, _, h, hf => ⟨[], fp, .refl _, Own.zero (Own.freeze _ _ _ _ h hf)⟩
  | .dic ks ws, n + 1, m, v, fp, hn, h, hf => by
    obtain ⟨m, rfl⟩ : ∃ m', m = m' + 1 := ⟨m - 1, by omega⟩
    unfold Own at h
    obtain ⟨a, es, fps, e, ha, hk, hh, hks, ho, rfl⟩ := h
    obtain ⟨f1, f2, e1, e3⟩ := Owns.cut ws n m _ fps (by omega) ho fun b hb => hf b (List.mem_cons_of_mem _ hb)
    refine ⟨a :: f1, f2, e1.cons a, ?_⟩
    · unfold Own
      exact ⟨a, es, f1, e, ha, hk, hh, Vals'.cool hks, e3, rfl⟩
  | .non, n, m, v, fp, _, h, hf => by unfold Own at h ⊢; obtain ⟨h1, rfl⟩ := h; exact ⟨[], [], .refl _, h1.cool, rfl⟩
  | .bl _, n, m, v, fp, _, h, hf => by unfold Own at h ⊢; obtain ⟨h1, rfl⟩ := h; exact ⟨[], [], .refl _, h1.cool, rfl⟩
  | .int _, n, m, v, fp, _, h, hf => by unfold Own at h ⊢; obtain ⟨h1, rfl⟩ := h; exact ⟨[], [], .refl _, h1.cool, rfl⟩
  | .str _, n, m, v, fp, _, h, hf => by unfold Own at h ⊢; obtain ⟨h1, rfl⟩ := h; exact ⟨[], [], .refl _, h1.cool, rfl⟩
  | .tup _, n, m, v, fp, _, h, hf => by unfold Own at h ⊢; obtain ⟨h1, rfl⟩ := h; exact ⟨[], [], .refl _, h1.cool, rfl⟩
  | .exc _ _, n, m, v, fp, _, h, hf => by unfold Own at h ⊢; obtain ⟨h1, rfl⟩ := h; exact ⟨[], [], .refl _, h1.cool, rfl⟩
  | .town, n, m, v, fp, _, h, hf => by unfold Own at h ⊢; obtain ⟨h1, rfl⟩ := h; exact ⟨[], [], .refl _, h1.cool, rfl⟩
  | .scr _, n, m, v, fp, _, h, hf => by unfold Own at h ⊢; obtain ⟨h1, rfl⟩ := h; exact ⟨[], [], .refl _, h1.cool, rfl⟩
theorem Owns.cut : ∀ (ds : List D) (n m : Nat) (vs : List V) (fp : List Addr), n ≤ m → Own.Owns K w C H G ds m vs fp → (∀ a ∈ fp, ¬ G.F a) → ∃ fp1 fp2, fp.Perm (fp1 ++ fp2) ∧ Own.Owns K w C H (G.cool fp2) ds n vs fp1
  | [], _, _, vs, fp, _, h, _ => by unfold Own.Owns at h ⊢; obtain ⟨h1, rfl⟩ := h; exact ⟨[], [], .refl _, h1, rfl⟩
  | d :: ds, n, m, vs, fp, hn, h, hf => by
    unfold Own.Owns at h
    obtain ⟨v, r, f1, f2, e, h1, h2, rfl⟩ := h
    obtain ⟨g1, g2, a1, a3⟩ := Own.cut d n m v f1 hn h1 fun a ha => hf a (List.mem_append_left _ ha)
    obtain ⟨k1, k2, b1, b3⟩ := Owns.cut ds n m r f2 hn h2 fun a ha => hf a (List.mem_append_right _ ha)
    refine ⟨g1 ++ k1, g2 ++ k2, (a1.append b1).trans ?_, ?_⟩
    · simp only [List.append_assoc]
      refine List.Perm.append_left g1 ?_
      rw [← List.append_assoc, ← List.append_assoc]
      exact List.Perm.append_right k2 List.perm_append_comm
    · unfold Own.Owns
      refine ⟨v, r, g1, k1, e, Own.zle' (cool_le fun b => List.mem_append_left _) rfl rfl a3, Owns.zle' (cool_le fun b => List.mem_append_right _) rfl rfl b3, rfl⟩
end
theorem Fresh.cut (f : Fresh Hb G fps fp) {f1 f2 : List Addr} (e : fp.Perm (f1 ++ f2)) : Fresh Hb (G.cool f2) fps f1 ∧ Fresh Hb G fps f2 := by
  have nd := List.nodup_append.mp (e.nodup_iff.mp f.nd)
  have m1 : ∀ a ∈ f1, a ∈ fp := fun a ha => e.mem_iff.mpr (List.mem_append_left _ ha)
  have m2 : ∀ a ∈ f2, a ∈ fp := fun a ha => e.mem_iff.mpr (List.mem_append_right _ ha)
  exact ⟨⟨nd.1, fun a ha => f.new a (m1 a ha), fun a ha z => by
    rcases z with z | z
    · exact f.nz a (m1 a ha) z
    · exact nd.2.2 a ha a z rfl, fun a ha => f.nF a (m1 a ha), fun i a ha => f.dj i a (m1 a ha)⟩,
    ⟨nd.2.1, fun a ha => f.new a (m2 a ha), fun a ha => f.nz a (m2 a ha), fun a ha => f.nF a (m2 a ha), fun i a ha => f.dj i a (m2 a ha)⟩⟩
theorem Got.look {k n : Nat} {d : D} {v : V} (g : Got K w C k n H H' G' fps' d v) (h : 0 < k) : Val K w C H' G' d k v := by
  unfold Got at g
  rw [if_neg (by omega)] at g
  exact g
theorem Got.own {n : Nat} {d : D} {v : V} (g : Got K w C 0 n H H' G' fps' d v) : ∃ fp, Own K w C H' G' d n v fp ∧ Fresh H G' fps' fp := by
  unfold Got at g
  rwa [if_pos rfl] at g
theorem Got.any {k n : Nat} {d : D} {v : V} (g : Got K w C k n H H' G' fps' d v) : ∃ m, Val K w C H' G' d m v := by
  unfold Got at g
  split at g
  · obtain ⟨fp, h1, h2⟩ := g
    exact ⟨n, Own.val _ _ _ _ h1 h2.nF⟩
  · exact ⟨k, g⟩
/-- handed on: never changed again -/
theorem Got.frz (g : Got K w C 0 n Hb H G fps d v) (o : Ok K w C H0 G0 σ H s fps G) (st : Stv Hb Gb fpsb H G fps) (b0 : ∀ a, Hb a = none → H0 a = none) :
    ∃ G1, Ok K w C H0 G0 σ H s fps G1 ∧ Stv Hb Gb fpsb H G1 fps ∧ Val K w C H G1 d 0 v := by
  obtain ⟨fp, h1, h2⟩ := g.own
  obtain ⟨o1, st1⟩ := o.cool h2 st h1.live b0
  exact ⟨_, o1, st1, Own.freeze _ _ _ _ h1 h2.nF⟩
/-- from a later base -/
theorem Got.old (g : Got K w C k n H H1 G1 fps1 d v) (st : Stv Hb Gb fpsb H G fps) (gi : GI H G) : Got K w C k n Hb H1 G1 fps1 d v := by
  unfold Got at g ⊢
  split at g
  · rename_i h
    obtain ⟨fp, a, b⟩ := g
    rw [if_pos h]
    exact ⟨fp, a, b.old st.stp gi⟩
  · rename_i h
    rw [if_neg h]; exact g
section
variable {α β : Type} {ok : α → St → Hp → Gs → (Nat → List Addr) → Prop}
theorem RdG.imp {ok' : α → St → Hp → Gs → (Nat → List Addr) → Prop} {r : Res α} (h : RdG K w C H0 G0 σ W H G fps ok r)
    (f : ∀ a s' H' G' fps', r = .ok a s' → Ok K w C H0 G0 σ H' s' fps' G' → Stv H G fps H' G' fps' → ok a s' H' G' fps' → ok' a s' H' G' fps') : RdG K w C H0 G0 σ W H G fps ok' r := by
  cases r with
  | ok a s' => exact fun H' G' fps' o st => f a s' H' G' fps' rfl o st (h H' G' fps' o st)
  | exc c fs s' => exact h
  | stuck => exact h
theorem RdG.bind {ok : β → St → Hp → Gs → (Nat → List Addr) → Prop} {ok1 : Hp → Gs → (Nat → List Addr) → β → St → Hp → Gs → (Nat → List Addr) → Prop} {r : Res α} {f : α → St → Res β} (h : RdG K w C H0 G0 σ W H G fps ok (r.bind f))
    (up : ∀ H1 G1 fps1, GI H1 G1 → Stv H G fps H1 G1 fps1 → ∀ b s' H' G' fps', Ok K w C H0 G0 σ H' s' fps' G' → Stv H1 G1 fps1 H' G' fps' → ok b s' H' G' fps' → ok1 H1 G1 fps1 b s' H' G' fps') :
    RdG K w C H0 G0 σ W H G fps (fun a s1 H1 G1 fps1 => RdG K w C H0 G0 σ W H1 G1 fps1 (ok1 H1 G1 fps1) (f a s1)) r := by
  cases r with
  | ok a s1 =>
    intro H1 G1 fps1 o1 st1
    have h' : RdG K w C H0 G0 σ W H G fps ok (f a s1) := h
    cases hf : f a s1 with
    | ok b s2 =>
      rw [hf] at h'
      exact fun H' G' fps' o st => up H1 G1 fps1 o1.gi st1 b s2 H' G' fps' o st (h' H' G' fps' o (st1.trans st o1.gi))
    | exc c fs s2 =>
      rw [hf] at h'
      exact fun H' G' fps' dd o st => h' H' G' fps' dd o (st1.trans st o1.gi)
    | stuck => rw [hf] at h'; exact h'
  | exc c fs s1 => exact h
  | stuck => exact h
theorem RdG.bindE {k n : Nat} {r : Res α} {f : α → St → Res D} (h : RdE K w C H0 G0 σ W k n H G fps Q (r.bind f)) :
    RdG K w C H0 G0 σ W H G fps (fun a s1 H1 G1 fps1 => RdE K w C H0 G0 σ W k n H1 G1 fps1 Q (f a s1)) r :=
  h.bind (ok1 := fun H1 _ _ d _ H' G' fps' => ∀ v, Got K w C k n H1 H' G' fps' d v → Q v H') fun H1 G1 fps1 gi st b s' H' G' fps' o st' hq v g => hq v (g.old st gi)
theorem RdG.bindA {n : Nat} {Q : List V → Hp → Prop} {r : Res α} {f : α → St → Res (List D)} (h : RdA K w C H0 G0 σ W n H G fps Q (r.bind f)) :
    RdG K w C H0 G0 σ W H G fps (fun a s1 H1 G1 fps1 => RdA K w C H0 G0 σ W n H1 G1 fps1 Q (f a s1)) r :=
  h.bind (ok1 := fun H1 _ _ ds _ H' G' fps' => ∀ vs fp, Own.Owns K w C H' G' ds n vs fp → Fresh H1 G' fps' fp → Q vs H') fun H1 G1 fps1 gi st b s' H' G' fps' o st' hq v fp g f => hq v fp g (f.old st.stp gi)
theorem RdG.toE {ok : D → St → Hp → Gs → (Nat → List Addr) → Prop} {k n : Nat} {r : Res D} (h : RdG K w C H0 G0 σ W H G fps ok r)
    (f : ∀ d s1 H1 G1 fps1 v, Ok K w C H0 G0 σ H1 s1 fps1 G1 → Stv H G fps H1 G1 fps1 → Got K w C k n H H1 G1 fps1 d v → ok d s1 H1 G1 fps1 → Q v H1) : RdE K w C H0 G0 σ W k n H G fps Q r :=
  h.imp fun d s1 H1 G1 fps1 _ o st q v g => f d s1 H1 G1 fps1 v o st g q
theorem RdG.opt {ok : α → St → Hp → Gs → (Nat → List Addr) → Prop} {x : Option α} (h : RdG K w C H0 G0 σ W H G fps ok (opt x s)) : ∃ a, x = some a ∧ RdG K w C H0 G0 σ W H G fps ok (.ok a s) := by
  cases x with
  | none => exact False.elim h
  | some a => exact ⟨a, rfl, h⟩
theorem RdG.bindB {α β : Type} {ok : β → St → Hp → Gs → (Nat → List Addr) → Prop} {r : Res α} {f : α → St → Res β} (h : RdG K w C H0 G0 σ W H G fps ok (r.bind f)) : RdG K w C H0 G0 σ W H G fps (fun a s1 _ _ _ => RdG K w C H0 G0 σ W H G fps ok (f a s1)) r := by
  cases r with
  | ok a s1 => exact fun _ _ _ _ _ => h
  | exc c fs s1 => exact h
  | stuck => exact h
theorem RdG.rebase {α : Type} {ok : α → St → Hp → Gs → (Nat → List Addr) → Prop} {r : Res α} (st : Stv H G fps H1 G1 fps1) (gi : GI H1 G1) (h : RdG K w C H0 G0 σ W H G fps ok r) : RdG K w C H0 G0 σ W H1 G1 fps1 ok r := by
  cases r with
  | ok a s1 => exact fun H' G' fps' o st' => h H' G' fps' o (st.trans st' gi)
  | exc c fs s1 => exact fun H' G' fps' dd o st' => h H' G' fps' dd o (st.trans st' gi)
  | stuck => exact h
theorem Fresh.cool0 (f : Fresh Hb G fps fp) : Fresh Hb (G.cool []) fps fp := ⟨f.nd, f.new, fun a ha z => Or.elim z (f.nz a ha) (fun z => nomatch z), f.nF, f.dj⟩
theorem Fresh.app {fp1 fp2 : List Addr} (f1 : Fresh H G1 fps1 fp1) (l1 : ∀ a ∈ fp1, H1 a ≠ none) (f2 : Fresh H1 G2 fps2 fp2) (st1 : Stv H G fps H1 G1 fps1) (g1 : GI H1 G1) (st2 : Stv H1 G1 fps1 H2 G2 fps2) : Fresh H G2 fps2 (fp1 ++ fp2) := by
  have a := f1.step l1 st2
  have b := f2.old st1.stp g1
  refine ⟨List.nodup_append.mpr ⟨a.nd, b.nd, fun x hx y hy e => ?_⟩, fun x hx => ?_, fun x hx => ?_, fun x hx => ?_, fun i x hx => ?_⟩
  · subst e; exact l1 x hx (f2.new x hy)
  · exact (List.mem_append.mp hx).elim (a.new x) (b.new x)
  · exact (List.mem_append.mp hx).elim (a.nz x) (b.nz x)
  · exact (List.mem_append.mp hx).elim (a.nF x) (b.nF x)
  · exact (List.mem_append.mp hx).elim (a.dj i x) (b.dj i x)
/-- a value's end, parts of it made on the way -/
theorem Ok.finO (o : Ok K w C H0 G0 σ H s fps G) (st : Stv Hb Gb fpsb H G fps) {k n : Nat} {d : D} (q : RdE K w C H0 G0 σ W k n Hb Gb fpsb Q (.ok d s)) {v : V} {fp : List Addr} (gr : ∀ a ob, H a = some ob → H' a = some ob)
    (ow : Own K w C H' G d n v fp) (f : Fresh Hb G fps fp) (b0 : ∀ a, Hb a = none → H0 a = none) : Q v H' := by
  obtain ⟨o1, st1⟩ := o.grow (fp := []) gr (fun _ h => nomatch h) (fun _ h => nomatch h)
  have st2 := st.trans st1 o.gi
  have ow1 : Own K w C H' (G.cool []) d n v fp := ow.zle' le_cool rfl rfl
  by_cases hk : k = 0
  · refine q H' _ fps o1 st2 v ?_
    unfold Got
    rw [if_pos hk]
    exact ⟨fp, ow1, f.cool0⟩
  · obtain ⟨o2, st3⟩ := o1.cool f.cool0 st2 ow1.live b0
    refine q H' _ fps o2 st3 v ?_
    unfold Got
    rw [if_neg hk]
    exact Val.up _ _ (Nat.zero_le _) (Own.freeze _ _ _ _ ow1 f.nF)
theorem Own.grow (k : ∀ a ob, H a = some ob → H' a = some ob) {d : D} {n : Nat} {v : V} {fp : List Addr} (h : Own K w C H G d n v fp) : Own K w C H' G d n v fp :=
  Own.gen (up := True) (fun a o e _ => k a o e) (fun _ z => z) (fun _ q => .inl q) (fun _ q => q) d n v fp h fun a _ o e => k a o e
theorem Owns.grow (k : ∀ a ob, H a = some ob → H' a = some ob) {d : List D} {n : Nat} {v : List V} {fp : List Addr} (h : Own.Owns K w C H G d n v fp) : Own.Owns K w C H' G d n v fp :=
  Owns.gen (up := True) (fun a o e _ => k a o e) (fun _ z => z) (fun _ q => .inl q) (fun _ q => q) d n v fp h fun a _ o e => k a o e
theorem Owns.length : ∀ {ds : List D} {n : Nat} {vs : List V} {fp : List Addr}, Own.Owns K w C H G ds n vs fp → vs.length = ds.length
  | [], n, vs, fp, h => by unfold Own.Owns at h; rw [h.1]; rfl
  | d :: ds, n, vs, fp, h => by
    unfold Own.Owns at h
    obtain ⟨v, r, f1, f2, rfl, _, h2, _⟩ := h
    rw [List.length_cons, List.length_cons, Owns.length h2]
/-- what is new deeper will do -/
theorem RdG.less {k n m : Nat} {r : Res D} (hn : n ≤ m) (o : Ok K w C H0 G0 σ H s fps G) (h : RdE K w C H0 G0 σ W k n H G fps Q r) : RdE K w C H0 G0 σ W k m H G fps Q r := by
  cases r with
  | exc c fs s' => exact h
  | stuck => exact h
  | ok d s' =>
    intro H1 G1 fps1 o1 st1 v g
    by_cases hk : k = 0
    · subst hk
      obtain ⟨fp, a, f⟩ := g.own
      obtain ⟨f1, f2, e, b⟩ := Own.cut d n m v fp hn a f.nF
      obtain ⟨c1, c2⟩ := f.cut e
      have hl : ∀ a ∈ f2, H1 a ≠ none := fun x hx => a.live x (e.mem_iff.mpr (List.mem_append_right _ hx))
      obtain ⟨o2, st2⟩ := o1.cool c2 st1 hl o.none0
      refine h H1 _ fps1 o2 st2 v ?_
      unfold Got
      rw [if_pos rfl]
      exact ⟨f1, b, c1⟩
    · refine h H1 G1 fps1 o1 st1 v ?_
      unfold Got at g ⊢
      rw [if_neg hk] at g ⊢
      exact g
theorem RdG.lessA {n m : Nat} {Q : List V → Hp → Prop} {r : Res (List D)} (hn : n ≤ m) (o : Ok K w C H0 G0 σ H s fps G) (h : RdA K w C H0 G0 σ W n H G fps Q r) : RdA K w C H0 G0 σ W m H G fps Q r := by
  cases r with
  | exc c fs s' => exact h
  | stuck => exact h
  | ok d s' =>
    intro H1 G1 fps1 o1 st1 v fp a f
    obtain ⟨f1, f2, e, b⟩ := Owns.cut d n m v fp hn a f.nF
    obtain ⟨c1, c2⟩ := f.cut e
    have hl : ∀ a ∈ f2, H1 a ≠ none := fun x hx => Owns.live a x (e.mem_iff.mpr (List.mem_append_right _ hx))
    obtain ⟨o2, st2⟩ := o1.cool c2 st1 hl o.none0
    exact h H1 _ fps1 o2 st2 v f1 b c1
end
/-- what is never changed, stands -/
structure Sty (H : Hp) (G : Gs) (H' : Hp) (G' : Gs) : Prop where
  keep : ∀ a o, H a = some o → Lean' G False a o → H' a = some o
  zz : ∀ a, G.Z a → G'.Z a
  fn : ∀ a, G'.F a → G.F a ∨ H a = none
  tt : ∀ a, G.t a → G'.t a
  nn : ∀ a, H' a = none → H a = none
theorem Stp.sty (s : Stp H G H' G') (g : GI H G) (g' : GI H' G') : Sty H G H' G' := ⟨fun a o e l => s.keep a o e (g.lean e (by
  rcases l with z | z | z | z
  · exact .inl z
  · exact .inr (.inl z)
  · exact .inr (.inr (.inl z))
  · exact z.1.elim)), s.zz, s.fn, s.tt, fun a h => s.none' g' h⟩
theorem Sty.refl : Sty H G H G := ⟨fun _ _ h _ => h, fun _ h => h, fun _ h => .inl h, fun _ h => h, fun _ h => h⟩
theorem Sty.lean (s : Sty H G H' G') {a : Addr} {o : HO} (l : Lean' G False a o) : Lean' G' False a o := by
  rcases l with z | z | z | z
  · exact .inl (s.zz a z)
  · exact .inr (.inl z)
  · exact .inr (.inr (.inl z))
  · exact z.1.elim
theorem Sty.trans (s : Sty H G H1 G1) (t : Sty H1 G1 H2 G2) : Sty H G H2 G2 :=
  ⟨fun a o e l => t.keep a o (s.keep a o e l) (s.lean l), fun a h => t.zz a (s.zz a h), fun a h => by
    rcases t.fn a h with q | q
    · exact s.fn a q
    · exact .inr (s.nn a q), fun a h => t.tt a (s.tt a h), fun a h => s.nn a (t.nn a h)⟩
theorem Val.sty (s : Sty H G H' G') {d : D} {v : V} (h : Val K w C H G d 0 v) : Val K w C H' G' d 0 v := Val.gen (up := False) s.keep s.zz s.fn s.tt d 0 v (.inr rfl) h
theorem Vals'.sty (s : Sty H G H' G') {d : List D} {v : List V} (h : Val.Vals' K w C H G d 0 v) : Val.Vals' K w C H' G' d 0 v := Vals'.gen (up := False) s.keep s.zz s.fn s.tt d 0 v (.inr rfl) h
end
/-- where a term runs -/
structure Md where
  X : Cx
  C : Str → Addr
  H0 : Hp
  G0 : Gs
  W : WX
  sem : Sem
  rd : Nat → Nat
abbrev Md.Ok (M : Md) (σ : List (Option V)) (H : Hp) (s : St) (fps : Nat → List Addr) (G : Gs) : Prop := Hx.Ok M.X.K M.X.w M.C M.H0 M.G0 σ H s fps G
abbrev Md.G {α : Type} (M : Md) (σ : List (Option V)) (H : Hp) (G : Gs) (fps : Nat → List Addr) (ok : α → St → Hp → Gs → (Nat → List Addr) → Prop) (r : Res α) : Prop := RdG M.X.K M.X.w M.C M.H0 M.G0 σ M.W H G fps ok r
section
variable (M : Md)
/-- an expression's reading: looked at to level k -/
def rdE (e : E) (k : Nat) : TE := fun σ H Q => ∃ s fps G, M.Ok σ H s fps G ∧ RdE M.X.K M.X.w M.C M.H0 M.G0 σ M.W k (dep M.rd e) H G fps Q (ev M.sem e k s)
/-- an argument list's: each new to depth n -/
def rdA (as : E) (n : Nat) : TA := fun σ H Q => ∃ s fps G, M.Ok σ H s fps G ∧ RdA M.X.K M.X.w M.C M.H0 M.G0 σ M.W n H G fps Q (evA M.sem as s)
/-- a built-in's: looked at to the levels ks -/
def rdP (as : E) (ks : List Nat) : TA := fun σ H Q => ∃ s fps G, M.Ok σ H s fps G ∧ M.G σ H G fps (fun ds _ H' G' _ => ∀ vs, GotP M.X.K M.X.w M.C H' G' ks ds vs → Q vs H') (evP M.sem as ks s)
/-- a test's -/
def rdT (e : E) : TT := fun σ H Q => ∃ s fps G, M.Ok σ H s fps G ∧ M.G σ H G fps (fun d _ H' _ _ => ∃ b, d = .bl b ∧ Q b H') (ev M.sem e 99 s)
end
end Hx
namespace Hx
open PySem PySem.Spec PyProof.Rows L2
section
variable {X : Cx} {e : Expr}
theorem PE.imp {t u : TE} (h : PE X e t) (f : ∀ σ H Q, u σ H Q → t σ H Q) : PE X e u := ⟨fun pins s σ H Q I q => h.run pins s σ H Q I (f σ H Q q)⟩
theorem PT.imp {t u : TT} (h : PT X e t) (f : ∀ σ H Q, u σ H Q → t σ H Q) : PT X e u := ⟨fun pins s σ H Q I q => h.run pins s σ H Q I (f σ H Q q)⟩
theorem PW.imp {t u : TT} (h : PW X e t) (f : ∀ σ H Q, u σ H Q → t σ H Q) : PW X e u := ⟨fun wh pins s σ H Q I q => h.run wh pins s σ H Q I (f σ H Q q)⟩
theorem PA.imp {es : List Expr} {t u : TA} (h : PA X es t) (f : ∀ σ H Q, u σ H Q → t σ H Q) : PA X es u := ⟨fun pos pins s σ H Q I q => h.run pos pins s σ H Q I (f σ H Q q)⟩
theorem PO.imp {oe : Option Expr} {t u : TO} (h : PO X oe t) (f : ∀ σ H Q, u σ H Q → t σ H Q) : PO X oe u := ⟨fun pins s σ H Q I q => h.run pins s σ H Q I (f σ H Q q)⟩
theorem PI.imp {tg : Expr} {t u : TI} (h : PI X tg e t) (f : ∀ σ H R, u σ H R → t σ H R) : PI X tg e u := ⟨fun pins s σ H R I q => h.run pins s σ H R I (f σ H R q)⟩
end
section
variable {M : Md} {σ : L2.St} {H : Hp} {Q : VK} {a b c : E} {k : Nat} {W : WX}
theorem x_var {i : Nat} (h : rdE M (.var i) k σ H Q) : tVar i σ H Q := by
  obtain ⟨s, fps, G, o, q⟩ := h
  unfold ev at q
  split at q
  · rename_i d he
    obtain ⟨v, e, hv⟩ := o.look he
    exact ⟨v, e, o.finV q (Val.up _ _ (Nat.zero_le _) hv) (fun _ => rfl)⟩
  · rename_i n d he
    split at q
    · rename_i hn
      obtain ⟨h0, v, e, _, hv⟩ := o.peek he
      exact ⟨v, e, o.finV q (Val.up _ _ hn hv) (fun _ => rfl)⟩
    · obtain ⟨v, e, o1, st, hv⟩ := o.take he
      refine ⟨v, e, q H _ _ o1 st v ?_⟩
      unfold Got
      split
      · exact ⟨[], Own.zero hv, Fresh.nil⟩
      · exact Val.up _ _ (Nat.zero_le _) hv
  · exact False.elim q
theorem x_int {i : Int} (h : rdE M (.cst (.int i)) k σ H Q) : tC (.int i) σ H Q := by
  obtain ⟨s, fps, G, o, q⟩ := h
  exact o.fin0 q (fun _ _ h => h) (by unfold Val; rfl) (fun h => by rcases h with ⟨_, h⟩ | ⟨_, _, h⟩ <;> cases h)
theorem x_bl {i : Bool} (h : rdE M (.cst (.bl i)) k σ H Q) : tC (.bl i) σ H Q := by
  obtain ⟨s, fps, G, o, q⟩ := h
  exact o.fin0 q (fun _ _ h => h) (by unfold Val; rfl) (fun h => by rcases h with ⟨_, h⟩ | ⟨_, _, h⟩ <;> cases h)
theorem x_str {i : Str} (h : rdE M (.cst (.str i)) k σ H Q) : tC (.str i) σ H Q := by
  obtain ⟨s, fps, G, o, q⟩ := h
  exact o.fin0 q (fun _ _ h => h) (by unfold Val; rfl) (fun h => by rcases h with ⟨_, h⟩ | ⟨_, _, h⟩ <;> cases h)
theorem x_non (h : rdE M (.cst .non) k σ H Q) : tC .non σ H Q := by
  obtain ⟨s, fps, G, o, q⟩ := h
  exact o.fin0 q (fun _ _ h => h) (by unfold Val; rfl) (fun h => by rcases h with ⟨_, h⟩ | ⟨_, _, h⟩ <;> cases h)
theorem x_gint {i : Int} (h : rdE M (.glb (.int i)) k σ H Q) : tC (.int i) σ H Q := by
  obtain ⟨s, fps, G, o, q⟩ := h
  exact o.fin0 q (fun _ _ h => h) (by unfold Val; rfl) (fun h => by rcases h with ⟨_, h⟩ | ⟨_, _, h⟩ <;> cases h)
theorem x_gstr {i : Str} (h : rdE M (.glb (.str i)) k σ H Q) : tC (.str i) σ H Q := by
  obtain ⟨s, fps, G, o, q⟩ := h
  exact o.fin0 q (fun _ _ h => h) (by unfold Val; rfl) (fun h => by rcases h with ⟨_, h⟩ | ⟨_, _, h⟩ <;> cases h)
/-- a value made by a rule, as a reading's end -/
theorem Ok.new {H0 : Hp} {G0 : Gs} {s : St} {fps : Nat → List Addr} {G : Gs} {K : PySem.W.Frag} {w : World} {n : Nat} {d : D} (o : Ok K w C H0 G0 σ H s fps G) (q : RdE K w C H0 G0 σ W k n H G fps Q (.ok d s)) : NewQ K w C H G n d Q :=
  fun v H' fp gr ow nd hn => o.fin q gr ow nd hn
theorem x_bin {o : Bop} (h : rdE M (.bin o a b) k σ H Q) : tOp (rBin M.X.K M.X.w M.C o) (rdE M a 1) (rdE M b 1) σ H Q := by
  obtain ⟨s, fps, G, ok, q⟩ := h
  unfold ev at q
  refine ⟨s, fps, G, ok, (RdG.bindE q).toE fun d1 s1 H1 G1 fps1 x o1 st1 g1 q1 => ⟨s1, fps1, G1, o1, (RdG.bindE q1).toE fun d2 s2 H2 G2 fps2 y o2 st2 g2 q2 => ?_⟩⟩
  obtain ⟨z, hz, q3⟩ := RdG.opt q2
  exact ⟨G2, d1, d2, z, (g1.look (by omega)).mono st2.stp o1.gi, g2.look (by omega), hz, o2.new q3⟩
theorem x_neg (h : rdE M (.neg a) k σ H Q) : tUn (rU fun i => .int (-i)) (rdE M a 99) σ H Q := by
  obtain ⟨s, fps, G, ok, q⟩ := h
  unfold ev at q
  refine ⟨s, fps, G, ok, (RdG.bindE q).toE fun d1 s1 H1 G1 fps1 x o1 st1 g1 q1 => ?_⟩
  split at q1
  · have h1 := g1.look (by omega)
    unfold Val at h1
    exact ⟨_, h1, (o1.new q1).int⟩
  · exact False.elim q1
theorem x_cmp {o : Cop} (h : rdE M (.cmp o a b) k σ H Q) : tOp (rCmp M.X.K M.X.w M.C o) (rdE M a 99) (rdE M b 99) σ H Q := by
  obtain ⟨s, fps, G, ok, q⟩ := h
  unfold ev at q
  refine ⟨s, fps, G, ok, (RdG.bindE q).toE fun d1 s1 H1 G1 fps1 x o1 st1 g1 q1 => ⟨s1, fps1, G1, o1, (RdG.bindE q1).toE fun d2 s2 H2 G2 fps2 y o2 st2 g2 q2 => ?_⟩⟩
  obtain ⟨z, hz, q3⟩ := RdG.opt q2
  obtain ⟨t, ht, rfl⟩ := Option.map_eq_some_iff.mp hz
  exact ⟨G2, d1, d2, t, (g1.look (by omega)).mono st2.stp o1.gi, g2.look (by omega), ht, (o2.new q3).bl⟩
theorem x_chn {o p : Cop} (h : rdE M (.chn o p a b c) k σ H Q) : tChain (rCmp M.X.K M.X.w M.C o) (rCmp M.X.K M.X.w M.C p) (rdE M a 99) (rdE M b 99) (rdE M c 99) σ H Q := by
  obtain ⟨s, fps, G, ok, q⟩ := h
  unfold ev at q
  refine ⟨s, fps, G, ok, (RdG.bindE q).toE fun d1 s1 H1 G1 fps1 x o1 st1 g1 q1 => ⟨s1, fps1, G1, o1, (RdG.bindE q1).toE fun d2 s2 H2 G2 fps2 y o2 st2 g2 q2 => ?_⟩⟩
  have q2 := RdG.bindE q2
  obtain ⟨z, hz, q3⟩ := RdG.opt q2
  refine ⟨G2, d1, d2, z, (g1.look (by omega)).mono st2.stp o1.gi, g2.look (by omega), hz, z, rfl, ?_⟩
  have q4 := q3 H2 G2 fps2 o2 .refl
  cases z with
  | false =>
    rw [if_neg (by decide)] at q4 ⊢
    exact (o2.new q4).bl
  | true =>
    rw [if_pos rfl] at q4 ⊢
    refine ⟨s2, fps2, G2, o2, (RdG.bindE q4).toE fun d3 s3 H3 G3 fps3 y3 o3 st3 g3 q5 => ?_⟩
    obtain ⟨z, hz, q6⟩ := RdG.opt q5
    obtain ⟨t, ht, rfl⟩ := Option.map_eq_some_iff.mp hz
    exact ⟨G3, d2, d3, t, (g2.look (by omega)).mono st3.stp o2.gi, g3.look (by omega), ht, (o3.new q6).bl⟩
/-- a test by its value -/
theorem t_val {Q : Bool → Hp → Prop} (h : rdT M a σ H Q) : tTest (rdE M a 99) σ H Q := by
  obtain ⟨s, fps, G, ok, q⟩ := h
  refine ⟨s, fps, G, ok, q.toE fun d1 s1 H1 G1 fps1 x o1 st1 g1 q1 => ?_⟩
  obtain ⟨b, rfl, q2⟩ := q1
  have h1 := g1.look (by omega)
  unfold Val at h1
  exact ⟨b, h1, q2⟩
theorem Got.bl' {K : PySem.W.Frag} {w : World} {n : Nat} {H' : Hp} {G' : Gs} {fps' : Nat → List Addr} {b : Bool} : Got K w C k n H H' G' fps' (.bl b) (.bl b) := by
  unfold Got
  split
  · exact ⟨[], by unfold Own Val; exact ⟨rfl, rfl⟩, Fresh.nil⟩
  · unfold Val; rfl
theorem x_not (h : rdE M (.not a) k σ H Q) : rdT M a σ H (fun b H' => Q (.bl (!b)) H') := by
  obtain ⟨s, fps, G, ok, q⟩ := h
  unfold ev at q
  refine ⟨s, fps, G, ok, (RdG.bindE q).imp fun d1 s1 H1 G1 fps1 hr1 o1 st1 q1 => ?_⟩
  split at q1
  · exact ⟨_, rfl, (o1.new q1).bl⟩
  · exact False.elim q1
theorem t_not {Q : Bool → Hp → Prop} (h : rdT M (.not a) σ H Q) : tNot (rdT M a) σ H Q := by
  obtain ⟨s, fps, G, ok, q⟩ := h
  unfold ev at q
  have q := RdG.bind (ok1 := fun _ _ _ d _ H' _ _ => ∃ b, d = .bl b ∧ Q b H') q (fun _ _ _ _ _ _ _ _ _ _ _ _ h => h)
  refine ⟨s, fps, G, ok, q.imp fun d1 s1 H1 G1 fps1 hr1 o1 st1 q1 => ?_⟩
  clear hr1
  split at q1
  · obtain ⟨b, e, q2⟩ := q1 H1 G1 fps1 o1 .refl
    cases e
    exact ⟨_, rfl, q2⟩
  · exact False.elim q1
theorem t_and {Q : Bool → Hp → Prop} (h : rdT M (.and a b) σ H Q) : tAnd (rdT M a) (rdT M b) σ H Q := by
  obtain ⟨s, fps, G, ok, q⟩ := h
  unfold ev at q
  have q := RdG.bind (ok1 := fun _ _ _ d _ H' _ _ => ∃ b, d = .bl b ∧ Q b H') q (fun _ _ _ _ _ _ _ _ _ _ _ _ h => h)
  refine ⟨s, fps, G, ok, q.imp fun d1 s1 H1 G1 fps1 hr1 o1 st1 q1 => ?_⟩
  clear hr1
  split at q1
  · rename_i t
    refine ⟨t, rfl, ?_⟩
    cases t with
    | true =>
      rw [if_pos rfl] at q1 ⊢
      exact ⟨s1, fps1, G1, o1, q1⟩
    | false =>
      rw [if_neg (by decide)] at q1 ⊢
      obtain ⟨b, e, q2⟩ := q1 H1 G1 fps1 o1 .refl
      cases e; exact q2
  · exact False.elim q1
theorem t_or {Q : Bool → Hp → Prop} (h : rdT M (.or a b) σ H Q) : tOr (rdT M a) (rdT M b) σ H Q := by
  obtain ⟨s, fps, G, ok, q⟩ := h
  unfold ev at q
  have q := RdG.bind (ok1 := fun _ _ _ d _ H' _ _ => ∃ b, d = .bl b ∧ Q b H') q (fun _ _ _ _ _ _ _ _ _ _ _ _ h => h)
  refine ⟨s, fps, G, ok, q.imp fun d1 s1 H1 G1 fps1 hr1 o1 st1 q1 => ?_⟩
  clear hr1
  split at q1
  · rename_i t
    refine ⟨t, rfl, ?_⟩
    cases t with
    | false =>
      rw [if_neg (by decide)] at q1 ⊢
      exact ⟨s1, fps1, G1, o1, q1⟩
    | true =>
      rw [if_pos rfl] at q1 ⊢
      obtain ⟨b, e, q2⟩ := q1 H1 G1 fps1 o1 .refl
      cases e; exact q2
  · exact False.elim q1
theorem x_ife (h : rdE M (.ife c a b) k σ H Q) : tIf (rdT M c) (rdE M a k) (rdE M b k) σ H Q := by
  obtain ⟨s, fps, G, ok, q⟩ := h
  unfold ev at q
  refine ⟨s, fps, G, ok, (RdG.bindE q).imp fun d1 s1 H1 G1 fps1 hr1 o1 st1 q1 => ?_⟩
  clear hr1
  split at q1
  · rename_i t
    refine ⟨t, rfl, ?_⟩
    cases t with
    | true =>
      rw [if_pos rfl] at q1 ⊢
      exact ⟨s1, fps1, G1, o1, q1.less (by simp only [dep]; omega) o1⟩
    | false =>
      rw [if_neg (by decide)] at q1 ⊢
      exact ⟨s1, fps1, G1, o1, q1.less (by simp only [dep]; omega) o1⟩
  · exact False.elim q1
theorem x_and (h : rdE M (.and a b) k σ H Q) : tAndV (rdE M a 99) (rdE M b k) σ H Q := by
  obtain ⟨s, fps, G, ok, q⟩ := h
  unfold ev at q
  refine ⟨s, fps, G, ok, (RdG.bindE q).toE fun d1 s1 H1 G1 fps1 x o1 st1 g1 q1 => ?_⟩
  split at q1
  · rename_i t
    have h1 := g1.look (by omega)
    unfold Val at h1
    refine ⟨t, h1, ?_⟩
    cases t with
    | true =>
      rw [if_pos rfl] at q1 ⊢
      exact ⟨s1, fps1, G1, o1, q1.less (by simp only [dep]; omega) o1⟩
    | false =>
      rw [if_neg (by decide)] at q1 ⊢
      exact (o1.new q1).bl
  · exact False.elim q1
theorem x_or (h : rdE M (.or a b) k σ H Q) : tOrV (rdE M a 99) (rdE M b k) σ H Q := by
  obtain ⟨s, fps, G, ok, q⟩ := h
  unfold ev at q
  refine ⟨s, fps, G, ok, (RdG.bindE q).toE fun d1 s1 H1 G1 fps1 x o1 st1 g1 q1 => ?_⟩
  split at q1
  · rename_i t
    have h1 := g1.look (by omega)
    unfold Val at h1
    refine ⟨t, h1, ?_⟩
    cases t with
    | false =>
      rw [if_neg (by decide)] at q1 ⊢
      exact ⟨s1, fps1, G1, o1, q1.less (by simp only [dep]; omega) o1⟩
    | true =>
      rw [if_pos rfl] at q1 ⊢
      exact (o1.new q1).bl
  · exact False.elim q1
def cnt : E → Nat
  | .cons _ r => cnt r + 1
  | _ => 0
theorem evA_len {sem : Sem} : ∀ {as : E} {s s' : St} {ds : List D}, evA sem as s = .ok ds s' → ds.length = cnt as := by
  intro as
  induction as with
  | nil => intro s s' ds h; unfold evA at h; cases h; rfl
  | cons a r _ ih =>
    intro s s' ds h
    unfold evA at h
    cases e : ev sem a 0 s with
    | ok d s1 =>
      rw [e] at h
      simp only [Res.bind] at h
      cases e2 : evA sem r s1 with
      | ok ds2 s2 =>
        rw [e2] at h
        simp only [Res.bind] at h
        cases h
        simp [cnt, ih e2]
      | exc _ _ _ => rw [e2] at h; simp at h
      | stuck => rw [e2] at h; simp at h
    | exc _ _ _ => rw [e] at h; simp at h
    | stuck => rw [e] at h; simp at h
  | _ => intro s s' ds h; unfold evA at h; cases h
variable {as r : E} {n : Nat}
theorem a_nil {Q : List V → Hp → Prop} (h : rdA M .nil n σ H Q) : tNil σ H Q := by
  obtain ⟨s, fps, G, ok, q⟩ := h
  unfold evA at q
  exact q H G fps ok .refl [] [] (by unfold Own.Owns; exact ⟨rfl, rfl⟩) Fresh.nil
theorem a_cons {Q : List V → Hp → Prop} (hn : n ≤ dep M.rd a) (h : rdA M (.cons a r) n σ H Q) : tCons (rdE M a 0) (rdA M r n) σ H Q := by
  obtain ⟨s, fps, G, ok, q⟩ := h
  unfold evA at q
  refine ⟨s, fps, G, ok, RdG.less hn ok ((RdG.bindB q).toE (k := 0) (n := n) fun d1 s1 H1 G1 fps1 x o1 st1 g1 q1 => ⟨s1, fps1, G1, o1, ?_⟩)⟩
  obtain ⟨fp1, ow1, f1⟩ := g1.own
  refine (RdG.rebase st1 o1.gi (RdG.bindB q1)).imp fun ds s2 H2 G2 fps2 _ o2 st2 q2 vs fp2 ow2 f2 => ?_
  refine q2 H2 G2 fps2 o2 (st1.trans st2 o1.gi) (x :: vs) (fp1 ++ fp2) ?_ (f1.app ow1.live f2 st1 o1.gi st2)
  unfold Own.Owns
  exact ⟨x, vs, fp1, fp2, rfl, ow1.mono st2.stp o1.gi f1.nF, ow2, rfl⟩
theorem x_tup (hc : cnt as ≤ 1000) (h : rdE M (.tup as) k σ H Q) : tTup (rdA M as 0) σ H Q := by
  obtain ⟨s, fps, G, ok, q⟩ := h
  unfold ev at q
  refine ⟨s, fps, G, ok, (RdG.bindE q).imp fun ds s1 H1 G1 fps1 hr o1 st1 q1 vs fp ow f => ⟨?_, ?_⟩⟩
  · rw [Owns.length ow, evA_len hr, sizeLine_eq]; omega
  · obtain ⟨h1, _⟩ := Owns.of0 ow
    exact (o1.new q1).tup h1
theorem x_lst (hc : cnt as ≤ 1000) (h : rdE M (.lst as) k σ H Q) : tLst (rdA M as (dep M.rd as)) σ H Q := by
  obtain ⟨s, fps, G, ok, q⟩ := h
  unfold ev at q
  refine ⟨s, fps, G, ok, (RdG.bindB q).imp fun ds s1 H1 G1 fps1 hr o1 st1 q1 vs fp ow f => ⟨?_, fun p hp => ?_⟩⟩
  · rw [Owns.length ow, evA_len hr, sizeLine_eq]; omega
  · refine o1.finO st1 q1 (grow_upd hp) (fp := p :: fp) ?_ ?_ ok.none0
    · simp only [dep]
      rw [Nat.add_comm]
      unfold Own
      exact ⟨p, vs, fp, rfl, upd_same, Owns.grow (grow_upd hp) ow, rfl⟩
    · refine ⟨List.nodup_cons.mpr ⟨fun z => Owns.live ow p z hp, f.nd⟩, fun a ha => ?_, fun a ha => ?_, fun a ha => ?_, fun i a ha => ?_⟩
      · rcases List.mem_cons.mp ha with e | ha
        · subst e; exact st1.stp.none' o1.gi hp
        · exact f.new a ha
      · rcases List.mem_cons.mp ha with e | ha
        · subst e; exact fun z => o1.gi.zh _ z hp
        · exact f.nz a ha
      · rcases List.mem_cons.mp ha with e | ha
        · subst e; exact fun z => by
            obtain ⟨_, z⟩ := o1.gi.fl _ z
            rw [hp] at z; cases z
        · exact f.nF a ha
      · rcases List.mem_cons.mp ha with e | ha
        · subst e; exact fun z => o1.er.live z hp
        · exact f.dj i a ha
end
end Hx
namespace Hx
open PySem PySem.Spec PyProof.Rows L2
theorem ixP_eq (n : Nat) (i : Int) : ixP n i = ixN n i := by
  unfold ixP ixN
  by_cases h : 0 ≤ i
  · rw [if_pos h, if_pos h]
    by_cases h2 : i.toNat < n
    · rw [if_pos h2, if_pos (by omega)]
    · rw [if_neg h2, if_neg (by omega)]
  · rw [if_neg h, if_neg h]
    by_cases h2 : 0 ≤ i + n
    · rw [if_pos h2, if_pos (by omega)]
    · rw [if_neg h2, if_neg (by omega)]
theorem clamp_eq (n d : Nat) (o : Option Int) : (o.map (clampP n)).getD d = HT.sIx n d o := by
  cases o with
  | none => rfl
  | some v =>
    show clampP n v = if v < 0 then (v + (n : Int)).toNat else min v.toNat n
    unfold clampP
    by_cases h : 0 ≤ v
    · rw [if_pos h, if_neg (by omega)]
    · rw [if_neg h, if_pos (by omega)]
theorem cut_eq (xs : List V) (lo hi : Option Int) : cutL xs lo hi = cutV xs lo hi := by
  unfold cutL cutV
  simp only [clamp_eq]
theorem cutS_eq (z : Str) (lo hi : Option Int) : (⟨(cutL z.cps.toList lo hi).toArray⟩ : Str) = cutS z lo hi := by
  unfold cutL cutS
  simp only [clamp_eq, Array.length_toList]
  rfl
section
variable {K : PySem.W.Frag} {w : World} {C : Str → Addr} {H : Hp} {G : Gs}
theorem Vals'.cut {ds : List D} {n : Nat} {vs : List V} (h : Val.Vals' K w C H G ds n vs) (lo hi : Option Int) : Val.Vals' K w C H G (cutL ds lo hi) n (cutV vs lo hi) := by
  rw [← cut_eq]
  unfold cutL
  rw [Vals'.length h]
  exact Vals'.take _ (Vals'.drop _ h)
theorem Vals'.at {ds : List D} {n : Nat} {vs : List V} {i : Int} {z : D} (h : Val.Vals' K w C H G ds n vs) (e : ((ixP ds.length i).bind fun j => ds[j]?) = some z) : ∃ v, atI vs i = some v ∧ Val K w C H G z n v := by
  obtain ⟨j, h1, h2⟩ := Option.bind_eq_some_iff.mp e
  obtain ⟨v, h3, h4⟩ := Vals'.nth h h2
  refine ⟨v, ?_, h4⟩
  unfold atI
  rw [Vals'.length h, ← ixP_eq, h1]
  exact h3
end
section
variable {X : Cx} {C : Str → Addr}
/-- a subscript -/
def rGet (K : PySem.W.Frag) (w : World) (C : Str → Addr) (n : Nat) : R2 := fun x y H Q => ∃ G d j z, Val K w C H G d (n + 1) x ∧ Val K w C H G j 99 y ∧ D.getI d j = some z ∧ ∀ v, Val K w C H G z n v → Q v H
theorem ixGet0 {n : Nat} (value slice : Expr) {pins : List (Addr × Obj)} {s : Shared} {σ : L2.St} {H : Hp} {x y : V} {v u : Value} {Q : VK} (I : Inv X pins σ H s) (rx : RelV x v) (ry : RelV y u)
    {G : Gs} {d j z : D} (h1 : Val X.K X.w C H G d (n + 1) x) (h2 : Val X.K X.w C H G j 99 y) (hz : D.getI d j = some z) (q : ∀ v, Val X.K X.w C H G z n v → Q v H)
    (hs : subscripted slice false v u = operate [v, u] (getItem v u)) : wpAny (model X.prog X.w) X.A (subscriptTail value slice v u) (EP X pins σ Q) X.xe s := by
  unfold D.getI at hz
  split at hz
  · unfold Val at h1 h2
    obtain ⟨a, vs, rfl, ha, hv⟩ := h1
    subst h2
    obtain ⟨v', e, hv'⟩ := Vals'.at hv hz
    exact ix_tup value slice pins s σ H _ _ v u Q I rx ry ⟨a, vs, _, v', rfl, rfl, SqT.of ha, e, q v' (Val.up _ _ (Nat.zero_le _) hv')⟩ hs
  · unfold Val at h1 h2
    obtain ⟨a, vs, rfl, ha, _, _, hv⟩ := h1
    subst h2
    obtain ⟨v', e, hv'⟩ := Vals'.at hv hz
    exact ix_list value slice pins s σ H _ _ v u Q I rx ry ⟨a, vs, _, v', rfl, rfl, SqL.of ha, e, q v' hv'⟩ hs
  · split at hz
    · rename_i z' i hl
      unfold Val at h1 h2
      subst h1 h2
      obtain ⟨k, e1, e2⟩ := Option.bind_eq_some_iff.mp hz
      obtain ⟨c, e3, rfl⟩ := Option.map_eq_some_iff.mp e2
      refine ix_str value slice pins s σ H _ _ v u Q I rx ry ⟨z', i, c, rfl, rfl, hl, ?_, q _ (by unfold Val; rfl)⟩ hs
      unfold atI
      rw [Array.length_toList, ← ixP_eq, e1]
      exact e3
    · cases hz
  · cases hz
theorem ixGet (n : Nat) : IxR X (rGet X.K X.w C n) := fun value slice pins s σ H x y v u Q I rx ry ⟨G, d, j, z, h1, h2, hz, q⟩ hs => ixGet0 value slice I rx ry h1 h2 hz q hs
/-- a slice -/
def rSlc (K : PySem.W.Frag) (w : World) (C : Str → Addr) : V → Option Int → Option Int → Hp → VK → Prop := fun x lo hi H Q => ∃ G d z, Val K w C H G d 1 x ∧ slcD d lo hi = some z ∧ NewQ K w C H G 1 z Q
theorem slSlc : L2.SlR X (rSlc X.K X.w C) := by
  intro pins s σ H x v vl vu lo hi sl Q I rx hs pl pu h
  obtain ⟨G, d, z, h1, hz, q⟩ := h
  unfold slcD at hz
  split at hz
  · cases hz
    unfold Val at h1
    obtain ⟨a, vs, rfl, ha, _, _, hv⟩ := h1
    exact sl_list pins s σ H _ v vl vu lo hi sl Q I rx hs pl pu ⟨a, vs, rfl, SqL.of ha, q.lst (Vals'.cut hv lo hi)⟩
  · rename_i xs
    cases hz
    unfold Val at h1
    obtain ⟨a, vs, rfl, ha, hv⟩ := h1
    refine sl_tupA pins s σ H _ v vl vu lo hi sl Q I rx hs pl pu ⟨a, vs, rfl, SqT.of ha, fun hw => ?_, fun _ => q.tup (Vals'.cut hv lo hi)⟩
    have e : cutL xs lo hi = xs := by
      unfold cutL
      simp only [clamp_eq]
      rw [Vals'.length hv] at hw
      rw [hw.1, hw.2]
      simp
    rw [e] at q
    exact q.old ha hv
  · split at hz
    · rename_i z' hl
      cases hz
      unfold Val at h1
      subst h1
      refine sl_str pins s σ H _ v vl vu lo hi sl Q I rx hs pl pu ⟨z', rfl, hl, ?_⟩
      have := q.str
      rw [cutS_eq] at this
      exact this
    · cases hz
  · cases hz
end
section
variable {M : Md} {σ : L2.St} {H : Hp} {Q : VK} {a b c : E} {k n : Nat}
theorem x_idx (h : rdE M (.idx a b) k σ H Q) : tOp (rGet M.X.K M.X.w M.C k) (rdE M a (k + 1)) (rdE M b 99) σ H Q := by
  obtain ⟨s, fps, G, ok, q⟩ := h
  unfold ev at q
  refine ⟨s, fps, G, ok, (RdG.bindE q).toE fun d1 s1 H1 G1 fps1 x o1 st1 g1 q1 => ⟨s1, fps1, G1, o1, (RdG.bindE q1).toE fun d2 s2 H2 G2 fps2 y o2 st2 g2 q2 => ?_⟩⟩
  obtain ⟨z, hz, q3⟩ := RdG.opt q2
  exact ⟨G2, d1, d2, z, (g1.look (by omega)).mono st2.stp o1.gi, g2.look (by omega), hz, fun v hv => o2.finV q3 hv fun _ => rfl⟩
theorem x_rev (h : rdE M (.rev a) k σ H Q) : tRevL M.X.K (rdE M a 1) σ H Q := by
  obtain ⟨s, fps, G, ok, q⟩ := h
  unfold ev at q
  refine ⟨s, fps, G, ok, (RdG.bindE q).toE fun d1 s1 H1 G1 fps1 x o1 st1 g1 q1 => ?_⟩
  obtain ⟨z, hz, q3⟩ := RdG.opt q1
  unfold revD at hz
  split at hz
  · cases hz
    have h1 := g1.look (by omega)
    unfold Val at h1
    obtain ⟨a, vs, rfl, ha, _, _, hv⟩ := h1
    exact ⟨a, vs, rfl, SqL.of ha, (o1.new q3).lst (Vals'.rev hv)⟩
  · cases hz
/-- a slice's end -/
def rdO (M : Md) (e : E) : TO := fun σ H Q => ∃ s fps G, M.Ok σ H s fps G ∧ M.G σ H G fps (fun o _ H' _ _ => Q o H') (evO M.sem e s)
theorem o_nil {Q : Option Int → Hp → Prop} (h : rdO M .nil σ H Q) : tNoPart σ H Q := by
  obtain ⟨s, fps, G, ok, q⟩ := h
  unfold evO at q
  exact q H G fps ok .refl
theorem o_cons {Q : Option Int → Hp → Prop} (h : rdO M (.cons a b) σ H Q) : tPart (rdE M a 99) σ H Q := by
  obtain ⟨s, fps, G, ok, q⟩ := h
  unfold evO at q
  refine ⟨s, fps, G, ok, (RdG.bindB q).toE fun d1 s1 H1 G1 fps1 x o1 st1 g1 q1 => ?_⟩
  split at q1
  · have h1 := g1.look (by omega)
    unfold Val at h1
    exact ⟨_, h1, q1 H1 G1 fps1 o1 st1⟩
  · exact False.elim q1
theorem x_slc (h : rdE M (.slc a b c) k σ H Q) : tSl (rSlc M.X.K M.X.w M.C) (rdE M a 1) (rdO M b) (rdO M c) σ H Q := by
  obtain ⟨s, fps, G, ok, q⟩ := h
  unfold ev at q
  refine ⟨s, fps, G, ok, (RdG.bindE q).toE fun d1 s1 H1 G1 fps1 x o1 st1 g1 q1 => ⟨s1, fps1, G1, o1, (RdG.bindE q1).imp fun l s2 H2 G2 fps2 _ o2 st2 q2 => ⟨s2, fps2, G2, o2, (RdG.bindE q2).imp fun u s3 H3 G3 fps3 _ o3 st3 q3 => ?_⟩⟩⟩
  obtain ⟨z, hz, q4⟩ := RdG.opt q3
  exact ⟨G3, d1, z, ((g1.look (by omega)).mono st2.stp o1.gi).mono st3.stp o2.gi, hz, o3.new q4⟩
theorem p_nil {Q : List V → Hp → Prop} {ks : List Nat} (h : rdP M .nil ks σ H Q) : tNil σ H Q := by
  obtain ⟨s, fps, G, ok, q⟩ := h
  unfold evP at q
  exact q H G fps ok .refl [] (by unfold GotP; rfl)
theorem p_cons {Q : List V → Hp → Prop} {ks : List Nat} (h : rdP M (.cons a b) ks σ H Q) : tCons (rdE M a (ks.headD 0)) (rdP M b ks.tail) σ H Q := by
  obtain ⟨s, fps, G, ok, q⟩ := h
  unfold evP at q
  by_cases hk : ks.headD 0 = 0
  · refine ⟨s, fps, G, ok, RdG.less (Nat.zero_le _) ok ((RdG.bindB q).toE (n := 0) fun d1 s1 H1 G1 fps1 x o1 st1 g1 q1 => ⟨s1, fps1, G1, o1, ?_⟩)⟩
    rw [hk] at g1
    obtain ⟨fp, ow, fr⟩ := g1.own
    obtain ⟨hv, rfl⟩ := Own.of0 ow
    refine (RdG.rebase st1 o1.gi (RdG.bindB q1)).imp fun ds s2 H2 G2 fps2 _ o2 st2 q2 vs gp => ?_
    refine q2 H2 G2 fps2 o2 (st1.trans st2 o1.gi) (x :: vs) ?_
    unfold GotP
    rw [hk]
    exact ⟨x, vs, rfl, hv.mono st2.stp o1.gi, gp⟩
  · refine ⟨s, fps, G, ok, (RdG.bindB q).toE fun d1 s1 H1 G1 fps1 x o1 st1 g1 q1 => ⟨s1, fps1, G1, o1, ?_⟩⟩
    refine (RdG.rebase st1 o1.gi (RdG.bindB q1)).imp fun ds s2 H2 G2 fps2 _ o2 st2 q2 vs gp => ?_
    refine q2 H2 G2 fps2 o2 (st1.trans st2 o1.gi) (x :: vs) ?_
    unfold GotP
    exact ⟨x, vs, rfl, (g1.look (by omega)).mono st2.stp o1.gi, gp⟩
/-- how deep a built-in's value is new -/
def dpP : Prim → Nat
  | .len | .tuple | .all | .any | .sum | .str | .int | .join | .index | .count | .lset => 99
  | .list | .dict | .sorted | .sset => 1
  | _ => 0
def rPrm (K : PySem.W.Frag) (w : World) (C : Str → Addr) (p : Prim) : List V → Hp → VK → Prop := fun xs H Q => ∃ G ds z, GotP K w C H G p.look ds xs ∧ primD p ds = some z ∧ NewQ K w C H G (dpP p) z Q
theorem x_prm {p : Prim} (h : rdE M (.prm p a) k σ H Q) : rdP M a p.look σ H fun xs H1 => rPrm M.X.K M.X.w M.C p xs H1 Q := by
  obtain ⟨s, fps, G, ok, q⟩ := h
  unfold ev at q
  refine ⟨s, fps, G, ok, (RdG.bindE q).imp fun ds s1 H1 G1 fps1 _ o1 st1 q1 vs gp => ?_⟩
  obtain ⟨z, hz, q4⟩ := RdG.opt q1
  have : dep M.rd (.prm p a) = dpP p := by cases p <;> rfl
  rw [this] at q4
  exact ⟨G1, ds, z, gp, hz, o1.new q4⟩
end
end Hx
namespace Hx
open PySem PySem.Spec PyProof.Rows L2
section
variable {K : PySem.W.Frag} {w : World} {C : Str → Addr} {H : Hp} {G : Gs}
theorem GotP.one {ks : List Nat} {xs : List V} {d : D} (h : GotP K w C H G ks [d] xs) : ∃ v, xs = [v] ∧ Val K w C H G d (ks.headD 0) v := by
  unfold GotP at h
  obtain ⟨v, r, rfl, h1, h2⟩ := h
  unfold GotP at h2
  subst h2
  exact ⟨v, rfl, h1⟩
theorem GotP.two {ks : List Nat} {xs : List V} {d e : D} (h : GotP K w C H G ks [d, e] xs) : ∃ v u, xs = [v, u] ∧ Val K w C H G d (ks.headD 0) v ∧ Val K w C H G e (ks.tail.headD 0) u := by
  unfold GotP at h
  obtain ⟨v, r, rfl, h1, h2⟩ := h
  unfold GotP at h2
  obtain ⟨u, r, rfl, h2, h3⟩ := h2
  unfold GotP at h3
  subst h3
  exact ⟨v, u, rfl, h1, h2⟩
theorem intsD_vs : ∀ {ds : List D} {n : Nat} {vs : List V} {ns : List Int}, intsD ds = some ns → Val.Vals' K w C H G ds n vs → vs = ns.map V.int
  | [], _, _, _, e, h => by unfold intsD at e; cases e; unfold Val.Vals' at h; exact h
  | .int i :: r, n, _, _, e, h => by
    unfold intsD at e
    obtain ⟨ms, e2, rfl⟩ := Option.map_eq_some_iff.mp e
    unfold Val.Vals' at h
    obtain ⟨v, u, rfl, h1, h2⟩ := h
    unfold Val at h1
    rw [h1, intsD_vs e2 h2]
    rfl
  | .non :: r, _, _, _, e, _ => by simp [intsD] at e
  | .bl _ :: r, _, _, _, e, _ => by simp [intsD] at e
  | .str _ :: r, _, _, _, e, _ => by simp [intsD] at e
  | .tup _ :: r, _, _, _, e, _ => by simp [intsD] at e
  | .lst _ :: r, _, _, _, e, _ => by simp [intsD] at e
  | .dic _ _ :: r, _, _, _, e, _ => by simp [intsD] at e
  | .exc _ _ :: r, _, _, _, e, _ => by simp [intsD] at e
  | .town :: r, _, _, _, e, _ => by simp [intsD] at e
  | .scr _ :: r, _, _, _, e, _ => by simp [intsD] at e
theorem bools_vs : ∀ {ds : List D} {n : Nat} {vs : List V} {ns : List Bool}, bools ds = some ns → Val.Vals' K w C H G ds n vs → vs = ns.map V.bl
  | [], _, _, _, e, h => by unfold bools at e; cases e; unfold Val.Vals' at h; exact h
  | .bl i :: r, n, _, _, e, h => by
    unfold bools at e
    obtain ⟨ms, e2, rfl⟩ := Option.map_eq_some_iff.mp e
    unfold Val.Vals' at h
    obtain ⟨v, u, rfl, h1, h2⟩ := h
    unfold Val at h1
    rw [h1, bools_vs e2 h2]
    rfl
  | .non :: r, _, _, _, e, _ => by simp [bools] at e
  | .int _ :: r, _, _, _, e, _ => by simp [bools] at e
  | .str _ :: r, _, _, _, e, _ => by simp [bools] at e
  | .tup _ :: r, _, _, _, e, _ => by simp [bools] at e
  | .lst _ :: r, _, _, _, e, _ => by simp [bools] at e
  | .dic _ _ :: r, _, _, _, e, _ => by simp [bools] at e
  | .exc _ _ :: r, _, _, _, e, _ => by simp [bools] at e
  | .town :: r, _, _, _, e, _ => by simp [bools] at e
  | .scr _ :: r, _, _, _, e, _ => by simp [bools] at e
theorem strsD_vs : ∀ {ds : List D} {n : Nat} {vs : List V} {ns : List Str}, strsD ds = some ns → Val.Vals' K w C H G ds n vs → vs = ns.map V.str
  | [], _, _, _, e, h => by unfold strsD at e; cases e; unfold Val.Vals' at h; exact h
  | .str i :: r, n, _, _, e, h => by
    unfold strsD at e
    obtain ⟨ms, e2, rfl⟩ := Option.map_eq_some_iff.mp e
    unfold Val.Vals' at h
    obtain ⟨v, u, rfl, h1, h2⟩ := h
    unfold Val at h1
    rw [h1, strsD_vs e2 h2]
    rfl
  | .non :: r, _, _, _, e, _ => by simp [strsD] at e
  | .int _ :: r, _, _, _, e, _ => by simp [strsD] at e
  | .bl _ :: r, _, _, _, e, _ => by simp [strsD] at e
  | .tup _ :: r, _, _, _, e, _ => by simp [strsD] at e
  | .lst _ :: r, _, _, _, e, _ => by simp [strsD] at e
  | .dic _ _ :: r, _, _, _, e, _ => by simp [strsD] at e
  | .exc _ _ :: r, _, _, _, e, _ => by simp [strsD] at e
  | .town :: r, _, _, _, e, _ => by simp [strsD] at e
  | .scr _ :: r, _, _, _, e, _ => by simp [strsD] at e
/-- a sequence, seen -/
theorem seq_val {d : D} {xs : List D} {n : Nat} {v : V} (e : seqD d = some xs) (h : Val K w C H G d (n + 1) v) : ∃ a vs, v = .ref a ∧ (SqL K H a vs ∨ SqT K H a vs) ∧ Val.Vals' K w C H G xs n vs := by
  cases d with
  | tup ys =>
    cases e
    unfold Val at h
    obtain ⟨a, vs, e, ha, hv⟩ := h
    exact ⟨a, vs, e, .inr (SqT.of ha), Vals'.up _ _ (Nat.zero_le _) hv⟩
  | lst ys =>
    cases e
    unfold Val at h
    obtain ⟨a, vs, e, ha, _, _, hv⟩ := h
    exact ⟨a, vs, e, .inl (SqL.of ha), hv⟩
  | _ => cases e
theorem joinS_eq (sep : Str) (xs : List Str) : Txt.join sep xs = joinS sep xs := by
  have key : ∀ (r : List Str) (x a : Str), (⟨r.foldl (fun acc p => acc ++ sep.cps ++ p.cps) (a ++ x).cps⟩ : Str) = a ++ joinS sep (x :: r) := by
    intro r
    induction r with
    | nil => intro x a; rfl
    | cons y r ih =>
      intro x a
      have e : ((a ++ x).cps ++ sep.cps ++ y.cps) = ((a ++ x ++ sep) ++ y).cps := rfl
      rw [List.foldl_cons, e, ih y (a ++ x ++ sep)]
      show _ = a ++ (x ++ sep ++ joinS sep (y :: r))
      show (⟨((a.cps ++ x.cps) ++ sep.cps) ++ (joinS sep (y :: r)).cps⟩ : Str) = ⟨a.cps ++ ((x.cps ++ sep.cps) ++ (joinS sep (y :: r)).cps)⟩
      congr 1
      simp only [Array.append_assoc]
  cases xs with
  | nil => rfl
  | cons x r =>
    have := key r x ⟨#[]⟩
    have e2 : ((⟨#[]⟩ : Str) ++ x).cps = x.cps := by show #[] ++ x.cps = x.cps; simp
    have e3 : (⟨#[]⟩ : Str) ++ joinS sep (x :: r) = joinS sep (x :: r) := by
      show (⟨#[] ++ (joinS sep (x :: r)).cps⟩ : Str) = joinS sep (x :: r)
      simp
    rw [e2, e3] at this
    rw [← this]
    rfl
end
section
variable {X : Cx} {C : Str → Addr}
theorem c_len0 {pins : List (Addr × Obj)} {s : Shared} {σ : L2.St} {H : Hp} {xs : List V} {us : List Value} {Q : VK} (I : Inv X pins σ H s) (rs : Vals xs us)
    {G : Gs} {ds : List D} {z : D} (h : GotP X.K X.w C H G [99, 99] ds xs) (hp : lenD ds = some z) (q : NewQ X.K X.w C H G 99 z Q) :
    wpAny (model X.prog X.w) X.A (call (.builtin "len") us) (EP X pins σ Q) X.xe s := by
  unfold lenD at hp
  split at hp
  · cases hp
    obtain ⟨v, rfl, hv⟩ := h.one
    unfold Val at hv
    obtain ⟨a, vs, rfl, ha, hv⟩ := hv
    exact call_len_seq pins s σ H _ us Q I rs ⟨a, vs, rfl, .inr (SqT.of ha), by rw [Vals'.length hv]; exact q.int⟩
  · cases hp
    obtain ⟨v, rfl, hv⟩ := h.one
    unfold Val at hv
    obtain ⟨a, vs, rfl, ha, _, _, hv⟩ := hv
    exact call_len_seq pins s σ H _ us Q I rs ⟨a, vs, rfl, .inl (SqL.of ha), by rw [Vals'.length hv]; exact q.int⟩
  · split at hp
    · rename_i hl
      cases hp
      obtain ⟨v, rfl, hv⟩ := h.one
      unfold Val at hv
      subst hv
      exact call_len_str pins s σ H _ us Q I rs ⟨_, rfl, hl, q.int⟩
    · cases hp
  · cases hp
theorem c_len : CallR X (.builtin "len") (rPrm X.K X.w C .len) := fun pins s σ H xs us Q I rs ⟨G, ds, z, h, hp, q⟩ => c_len0 I rs h hp q
theorem c_tuple : CallR X (.type "tuple") (rPrm X.K X.w C .tuple) := by
  intro pins s σ H xs us Q I rs h
  obtain ⟨G, ds, z, h, hp, q⟩ := h
  simp only [primD, Prim.look, dpP] at h hp q
  unfold tupleD at hp
  split at hp
  · cases hp
    obtain ⟨v, rfl, hv⟩ := h.one
    unfold Val at hv
    obtain ⟨a, vs, rfl, ha, hv⟩ := hv
    exact call_tuple_of pins s σ H _ us Q I rs ⟨a, vs, rfl, .inr ⟨SqT.of ha, q.old ha hv⟩⟩
  · cases hp
    obtain ⟨v, rfl, hv⟩ := h.one
    unfold Val at hv
    obtain ⟨a, vs, rfl, ha, _, _, hv⟩ := hv
    exact call_tuple_of pins s σ H _ us Q I rs ⟨a, vs, rfl, .inl ⟨SqL.of ha, q.tup hv⟩⟩
  · cases hp
theorem c_list : CallR X (.type "list") (rPrm X.K X.w C .list) := by
  intro pins s σ H xs us Q I rs h
  obtain ⟨G, ds, z, h, hp, q⟩ := h
  simp only [primD, Prim.look, dpP] at h hp q
  unfold listD at hp
  split at hp
  · cases hp
    obtain ⟨v, rfl, hv⟩ := h.one
    unfold Val at hv
    obtain ⟨a, vs, rfl, ha, hv⟩ := hv
    exact call_list_of pins s σ H _ us Q I rs ⟨a, vs, rfl, .inr (SqT.of ha), q.lst hv⟩
  · cases hp
    obtain ⟨v, rfl, hv⟩ := h.one
    unfold Val at hv
    obtain ⟨a, vs, rfl, ha, _, _, hv⟩ := hv
    exact call_list_of pins s σ H _ us Q I rs ⟨a, vs, rfl, .inl (SqL.of ha), q.lst hv⟩
  · cases hp
theorem c_all (hc : X.calm = true) : CallR X (.builtin "all") (rPrm X.K X.w C .all) := by
  intro pins s σ H xs us Q I rs h
  obtain ⟨G, ds, z, h, hp, q⟩ := h
  simp only [primD, Prim.look, dpP] at h hp q
  unfold allD at hp
  split at hp
  · obtain ⟨bs, hb, rfl⟩ := Option.map_eq_some_iff.mp hp
    obtain ⟨v, rfl, hv⟩ := h.one
    unfold Val at hv
    obtain ⟨a, vs, rfl, ha, _, _, hv⟩ := hv
    rw [bools_vs hb hv] at ha
    exact cr_all hc pins s σ H _ us Q I rs ⟨a, bs, rfl, SqL.of ha, q.bl⟩
  · cases hp
theorem c_any (hc : X.calm = true) : CallR X (.builtin "any") (rPrm X.K X.w C .any) := by
  intro pins s σ H xs us Q I rs h
  obtain ⟨G, ds, z, h, hp, q⟩ := h
  simp only [primD, Prim.look, dpP] at h hp q
  unfold anyD at hp
  split at hp
  · obtain ⟨bs, hb, rfl⟩ := Option.map_eq_some_iff.mp hp
    obtain ⟨v, rfl, hv⟩ := h.one
    unfold Val at hv
    obtain ⟨a, vs, rfl, ha, _, _, hv⟩ := hv
    rw [bools_vs hb hv] at ha
    exact cr_any hc pins s σ H _ us Q I rs ⟨a, bs, rfl, SqL.of ha, q.bl⟩
  · cases hp
theorem c_sum (hc : X.calm = true) : CallR X (.builtin "sum") (rPrm X.K X.w C .sum) := by
  intro pins s σ H xs us Q I rs h
  obtain ⟨G, ds, z, h, hp, q⟩ := h
  simp only [primD, Prim.look, dpP] at h hp q
  unfold sumD at hp
  split at hp
  · obtain ⟨bs, hb, rfl⟩ := Option.map_eq_some_iff.mp hp
    obtain ⟨v, rfl, hv⟩ := h.one
    unfold Val at hv
    obtain ⟨a, vs, rfl, ha, _, _, hv⟩ := hv
    rw [intsD_vs hb hv] at ha
    exact cr_sum hc pins s σ H _ us Q I rs ⟨a, bs, rfl, SqL.of ha, q.int⟩
  · cases hp
theorem c_max2 (hc : X.calm = true) : CallR X (.builtin "max") (rPrm X.K X.w C .max2) := by
  intro pins s σ H xs us Q I rs h
  obtain ⟨G, ds, z, h, hp, q⟩ := h
  simp only [primD, Prim.look, dpP] at h hp q
  unfold max2D at hp
  split at hp
  · cases hp
    obtain ⟨v, u, rfl, h1, h2⟩ := h.two
    unfold Val at h1 h2
    subst h1 h2
    exact call_max2 hc pins s σ H _ us Q I rs ⟨_, _, rfl, q.int⟩
  · cases hp
theorem c_min2 (hc : X.calm = true) : CallR X (.builtin "min") (rPrm X.K X.w C .min2) := by
  intro pins s σ H xs us Q I rs h
  obtain ⟨G, ds, z, h, hp, q⟩ := h
  simp only [primD, Prim.look, dpP] at h hp q
  unfold min2D at hp
  split at hp
  · cases hp
    obtain ⟨v, u, rfl, h1, h2⟩ := h.two
    unfold Val at h1 h2
    subst h1 h2
    exact call_min2 hc pins s σ H _ us Q I rs ⟨_, _, rfl, q.int⟩
  · cases hp
theorem c_str : CallR X (.type "str") (rPrm X.K X.w C .str) := by
  intro pins s σ H xs us Q I rs h
  obtain ⟨G, ds, z, h, hp, q⟩ := h
  simp only [primD, Prim.look, dpP] at h hp q
  unfold strD at hp
  split at hp
  · split at hp
    · rename_i hl
      cases hp
      obtain ⟨v, rfl, hv⟩ := h.one
      unfold Val at hv
      subst hv
      exact call_str_int pins s σ H _ us Q I rs ⟨_, rfl, hl, q.str⟩
    · cases hp
  · cases hp
/-- a method, its receiver the first argument -/
def rMt (K : PySem.W.Frag) (w : World) (C : Str → Addr) (p : Prim) : V → List V → Hp → VK → Prop := fun x xs H Q => rPrm K w C p (x :: xs) H Q
theorem m_join : MtR X "str.join" (rMt X.K X.w C .join) := by
  intro pins s σ H x xs v us Q I rx rs h
  obtain ⟨G, ds, z, h, hp, q⟩ := h
  simp only [primD, Prim.look, dpP] at h hp q
  unfold joinD at hp
  split at hp
  · obtain ⟨ys, h1, hp⟩ := Option.bind_eq_some_iff.mp hp
    obtain ⟨ts, h2, hp⟩ := Option.bind_eq_some_iff.mp hp
    split at hp
    · rename_i hl
      cases hp
      obtain ⟨v1, v2, e, h3, h4⟩ := h.two
      cases e
      unfold Val at h3
      subst h3
      obtain ⟨a, vs, rfl, hs, hv⟩ := seq_val h1 (n := 98) h4
      rw [strsD_vs h2 hv] at hs
      refine mt_join pins s σ H _ _ v us Q I rx rs ⟨_, a, ts, rfl, rfl, hs, hl, ?_⟩
      rw [joinS_eq]
      exact q.str
    · cases hp
  · cases hp
theorem findIdx_py (y : D) (hy : y.plain = true) : ∀ (xs : List D), D.plain.plains xs = true → (D.py.pys xs).findIdx? (fun z => PyData.eqv z y.py) = xs.findIdx? fun x => x.eqv y
  | [], _ => rfl
  | x :: xs, h => by
    simp only [D.plain.plains, Bool.and_eq_true] at h
    simp only [D.py.pys, List.findIdx?_cons]
    rw [py_eqv x y h.1 hy, findIdx_py y hy xs h.2]
theorem count_py (y : D) (hy : y.plain = true) : ∀ (xs : List D), D.plain.plains xs = true → (D.py.pys xs).countP (fun z => PyData.eqv z y.py) = xs.countP fun x => x.eqv y
  | [], _ => rfl
  | x :: xs, h => by
    simp only [D.plain.plains, Bool.and_eq_true] at h
    simp only [D.py.pys, List.countP_cons]
    rw [py_eqv x y h.1 hy, count_py y hy xs h.2]
theorem m_index (hu : X.A.units + 65 < cLine) : MtR X "list.index" (rMt X.K X.w C .index) := by
  intro pins s σ H x xs v us Q I rx rs h
  obtain ⟨G, ds, z, h, hp, q⟩ := h
  simp only [primD, Prim.look, dpP] at h hp q
  unfold indexD at hp
  split at hp
  · rename_i ys y
    split at hp
    · rename_i hl
      rw [Bool.and_eq_true] at hl
      obtain ⟨j, hj, rfl⟩ := Option.map_eq_some_iff.mp hp
      obtain ⟨v1, v2, e, h3, h4⟩ := h.two
      cases e
      have p1 := okEq_shaped hl.1
      have p2 := okEq_shaped hl.2
      have d1 := Val.dp _ _ _ p1.1 h3
      have pl : D.plain.plains ys = true := by simpa only [D.plain] using p1.1
      rw [← findIdx_py _ p2.1 _ pl] at hj
      obtain ⟨g1, g2, g3⟩ := List.findIdx?_eq_some_iff_getElem.mp hj
      unfold Val at h3
      obtain ⟨a, vs, rfl, ha, _, _, hv⟩ := h3
      refine mt_indexD hu pins s σ H _ _ v us Q I rx rs ⟨a, _, _, _, j, _, rfl, rfl, by simpa only [D.py] using d1, Val.dp _ _ _ p2.1 h4, by simpa only [D.py] using p1.2.1, p2.2.1, List.getElem?_eq_getElem g1, g2, fun m z' hm hz' => ?_, q.int⟩
      obtain ⟨hm2, rfl⟩ := List.getElem?_eq_some_iff.mp hz'
      simpa using g3 m hm
    · cases hp
  · cases hp
theorem m_count (hu : X.A.units + 65 < cLine) : MtR X "list.count" (fun x xs H Q => (∃ a vs, x = .ref a ∧ H a = some (.lst vs)) ∧ rMt X.K X.w C .count x xs H Q) := by
  intro pins s σ H x xs v us Q I rx rs h
  obtain ⟨⟨a0, vs0, e0, ha0⟩, G, ds, z, h, hp, q⟩ := h
  simp only [primD, Prim.look, dpP] at h hp q
  unfold countD at hp
  split at hp
  · rename_i ys y
    split at hp
    · rename_i hl
      rw [Bool.and_eq_true] at hl
      cases hp
      obtain ⟨v1, v2, e, h3, h4⟩ := h.two
      cases e
      have p1 := okEq_shaped hl.1
      have p2 := okEq_shaped hl.2
      have pl : D.plain.plains ys = true := by simpa only [D.plain] using p1.1
      obtain ⟨u, rfl, ru⟩ := vals1 rs
      obtain ⟨bs, r1⟩ := Dp.reads I _ v2 u (Val.dp _ _ _ p2.1 h4) ru
      unfold Val at h3
      obtain ⟨a, vs, rfl, ha, _, _, hv⟩ := h3
      cases rx
      obtain ⟨its, rv, ⟨⟨cls, dd, data, sls⟩, n, ho, hc, hdn, hdt⟩, hlen⟩ := I.list (SqL.of ha)
      simp only at hc hdt
      subst hc hdt
      obtain ⟨as, h5⟩ := Dp.readsAll I _ _ _ (Vals'.dp ys _ vs pl hv) rv
      have hxs : PyData.canLayAll0 (D.py.pys ys) = true := pys_lay ys pl
      have hroom : X.A.units + 1 + min (PyData.depthAll (D.py.pys ys)) y.py.depth < cLine := room_in_shaped p2.2.1 hu
      refine call_meets PySem.F.slot_list_count ⟨_, ho, rfl⟩ PySem.F.entry_list_count (PySem.F.args_list_count_2 _ _)
        (SeqAt.list_countAt a its.toArray n dd sls u (fun u => PyData.eqv (SeqAt.readOf s.heap u) y.py)) ⟨ho, SeqAt.items_eqAt (vs := its.toArray) (show ReadsAll s.heap its.toArray.toList _ as from h5) r1 hxs (SeqAt.canLay_of_shaped p2.2.1) hroom, ?_⟩
      have hmap : its.map (SeqAt.readOf s.heap) = D.py.pys ys := SeqAt.readsAll_map _ its as hxs h5
      have e1 : its.toArray.toList.countP (fun u => PyData.eqv (SeqAt.readOf s.heap u) y.py) = ys.countP fun x => x.eqv y := by
        rw [← count_py y p2.1 ys pl, ← hmap, List.countP_map]
        rfl
      rw [e1]
      exact ⟨.int _, H, I.tok _, ⟨_, rfl⟩, q.int⟩
    · cases hp
  · rename_i ys y
    obtain ⟨v1, v2, e, h3, h4⟩ := h.two
    cases e
    unfold Val at h3
    obtain ⟨a, vs, rfl, ha, hv⟩ := h3
    cases e0
    rw [ha] at ha0; cases ha0
  · cases hp
section
variable {prog : Program} {w : World} {A : Around} {E : Value → Shared → Prop} {s : Shared}
theorem collect_tup {l : Addr} {vs : List Value} {Q : List Value → Shared → Prop} (hl : s.heap.IsTuple l vs.toArray)
    (h : Q vs { s with heap := (s.heap.push (seqObj "list" #[] 0)).update s.heap.objs.size (Obj.mapSeq (· ++ vs.toArray)) }) (hsz : vs.length ≤ sizeLine) :
    wpAny (model prog w) A (collect (.ref l)) Q E s := by
  obtain ⟨o, ho, hc, n, hd⟩ := id hl
  unfold collect
  refine wpAny_bind (wpAny_runValue (codeAny_builtin entry_proto_collect' ?_))
  show wpAny _ _ (do again (.builtin "list.__iadd__" ⟨[← newList [], .ref l], []⟩)) _ _ s
  refine wpAny_bind (wpAny_newList (wpAny_pure ⟨Code.quiet_builtin _ (by decide +kernel), codeAny_builtin entry_list_iadd' ?_⟩))
  show wpAny _ _ (Builtin.List.listExtendWith (.ref s.heap.objs.size) (.ref l) (.ref s.heap.objs.size)) _ _ { s with heap := s.heap.push (seqObj "list" #[] 0) }
  unfold Builtin.List.listExtendWith
  have ho' : (s.heap.push (seqObj "list" #[] 0)).get? l = some o := Heap.get?_push_of_some _ ho
  refine wpAny_bind (wpAny_typeOf (T := "tuple") ⟨o, ho', hc⟩ ?_)
  have ht : (Value.type "tuple" == Value.type "tuple") = true := by rfl
  rw [if_pos (by rw [ht]; simp)]
  refine wpAny_bind (listItems_at ho' hd ?_)
  refine wpAny_bind (listItems_at (xs := #[]) (n := 0) (Heap.get?_push_size _ rfl) rfl ?_)
  rw [if_neg (by simp)]
  refine wpAny_bind (listUpdate_at (xs := #[]) (n := 0) (Heap.get?_push_size _ rfl) rfl ?_ (Nat.zero_le _) (by show (#[] ++ vs.toArray).size ≤ sizeLine + 1; simp only [Array.size_append, List.size_toArray, List.length_nil]; omega))
  refine wpAny_pure ?_
  show wpAny (model prog w) A (do
      let o ← load s.heap.objs.size
      match o.data with
      | .seq xs _ => pure xs.toList
      | _ => unsupported "internal:collect") Q E { s with heap := (s.heap.push (seqObj "list" #[] 0)).update s.heap.objs.size (Obj.mapSeq (· ++ vs.toArray)) }
  refine wpAny_bind (wpAny_load (get?_update_seq (Heap.get?_push_size _ rfl) _) ?_)
  show wpAny _ _ (pure ((#[] : Array Value) ++ vs.toArray).toList) Q E _
  rw [show ((#[] : Array Value) ++ vs.toArray).toList = vs by simp]
  exact wpAny_pure h
theorem sorted_of_sortT {l : Addr} {vs : List Value} {Q : Value → Shared → Prop} (hl : s.heap.IsTuple l vs.toArray) (hL : vs.length ≤ sizeLine)
    (body : ∀ E' : Value → Shared → Prop, wpAny (model prog w) A.in1.in1 (Builtin.«list.sort» ⟨[.ref (s.heap.objs.size + 1)], []⟩) (fun f s' => f = .done (.ret .none) ∧ Q (.ref (s.heap.objs.size + 1)) s') E' { s with heap := PySem.W.copyHeap s.heap vs }) :
    wpAny (model prog w) A (call (.builtin "sorted") [.ref l] []) Q E s := by
  refine PyProof.Rows.call_function_entry_kw kind_sorted plain_sorted entry_sorted (args_sorted1 _) ?_
  unfold Builtin.«sorted»
  refine wpAny_bind (m := checkCount "sorted" 1 1 _) (wpAny_pure ?_)
  refine wpAny_bind (collect_tup hl ?_ hL)
  refine wpAny_bind (wpAny_newList ?_ hL)
  have hsz : ((s.heap.push (seqObj "list" #[] 0)).update s.heap.objs.size (Obj.mapSeq (· ++ vs.toArray))).objs.size = s.heap.objs.size + 1 := by
    rw [Heap.size_update, size_push']
  show wpAny _ _ _ _ _ { s with heap := PySem.W.copyHeap s.heap vs }
  rw [hsz]
  refine wpAny_bind (wpAny_holding (PyProof.Rows.wpAny_call_entry_kw slot_list_sort ⟨_, PySem.W.copyHeap_at s.heap vs, rfl⟩ entry_list_sort ?body (args_list_sort _)))
  case body =>
    show wpAny (model prog w) A.in1.in1 (Builtin.«list.sort» ⟨[.ref (s.heap.objs.size + 1)], []⟩) _ _ _
    refine wpAny_mono (body _) (fun f s' hf => ?_) fun _ _ e => e
    obtain ⟨rfl, hq⟩ := hf
    exact ⟨_, rfl, wpAny_pure ⟨_, rfl, hq⟩⟩
open PySem.W in
theorem sorted_dataT {β : Type} {enc : β → PyData} {R : Value → β → Prop} {vs : List Value} {bs : List β} {l : Addr} {Q : Value → Shared → Prop} (hl : s.heap.IsTuple l vs.toArray) (e : EachIs R vs bs) (er : EachIs (fun v b => ∃ as, Reads s.heap v (enc b) as) vs bs) (hal : AllAlike (bs.map enc)) (hk : Sortable (bs.map enc)) (hL : bs.length ≤ sizeLine)
    (hu : ∀ b, b ∈ bs → A.units + 2 + (enc b).depth < cLine) (h : ∀ out, out.length = bs.length → EachIs R out (bs.mergeSort (dataLe false enc)) → Q (.ref (s.heap.objs.size + 1)) { s with heap := sortedAll s.heap vs (List.toArray out) }) :
    wpAny (model prog w) A (call (.builtin "sorted") [.ref l]) Q E s := by
  have er' : EachIs (fun v b => ∃ as, Reads (sortingHeap (copyHeap s.heap vs) (s.heap.objs.size + 1) vs) v (enc b) as) vs bs := er.mono fun _ _ ⟨as, r⟩ => ⟨as, PyProof.Rows.Reads.keeps (fun _ _ => sorting_copy_old) r⟩
  refine sorted_of_sortT hl (by rw [e.length]; exact hL) fun _ => list_sort_vals (s := { s with heap := copyHeap s.heap vs }) (copyHeap_at s.heap vs) (SortsAt.data (s := { s with heap := sortingHeap (copyHeap s.heap vs) (s.heap.objs.size + 1) vs }) (each_map (R := fun v d => ∃ as, Reads (sortingHeap (copyHeap s.heap vs) (s.heap.objs.size + 1) vs) v d as) enc er') hal hk (bound_map hu)) (by rw [e.length]; exact hL) ⟨rfl, ?_⟩
  exact h _ (by rw [sortVals_length false rfl]; exact e.length) (sortVals_data false e er' hal)
end
mutual
theorem eqv_eq : ∀ (a b : D), a.plain = true → a.alike b = true → a.eqv b = true → a = b
  | .non, b, _, h, e => by cases b <;> simp_all [D.alike]
  | .bl _, b, _, h, e => by cases b <;> simp_all [D.alike, D.eqv]
  | .int _, b, _, h, e => by cases b <;> simp_all [D.alike, D.eqv]
  | .str _, b, _, h, e => by cases b <;> simp_all [D.alike, D.eqv]
  | .tup xs, b, p, h, e => by
    cases b with
    | tup ys => unfold D.plain at p; simp only [D.alike] at h; simp only [D.eqv] at e; rw [eqvs_eq xs ys p h e]
    | _ => simp [D.alike] at h
  | .lst xs, b, p, h, e => by
    cases b with
    | lst ys => unfold D.plain at p; simp only [D.alike] at h; simp only [D.eqv] at e; rw [eqvs_eq xs ys p h e]
    | _ => simp [D.alike] at h
  | .dic _ _, b, p, _, _ => by simp [D.plain] at p
  | .exc _ _, b, p, _, _ => by simp [D.plain] at p
  | .town, b, p, _, _ => by simp [D.plain] at p
  | .scr _, b, p, _, _ => by simp [D.plain] at p
theorem eqvs_eq : ∀ (xs ys : List D), D.plain.plains xs = true → D.alike.alikes xs ys = true → D.eqv.eqvs xs ys = true → xs = ys
  | [], [], _, _, _ => rfl
  | [], _ :: _, _, _, e => by simp [D.eqv.eqvs] at e
  | _ :: _, [], _, _, e => by simp [D.eqv.eqvs] at e
  | x :: xs, y :: ys, p, h, e => by
    simp only [D.plain.plains, Bool.and_eq_true] at p
    simp only [D.alike.alikes, Bool.and_eq_true] at h
    simp only [D.eqv.eqvs, Bool.and_eq_true] at e
    rw [eqv_eq x y p.1 h.1 e.1, eqvs_eq xs ys p.2 h.2 e.2]
end
mutual
theorem eqv_refl : ∀ (a : D), a.plain = true → a.eqv a = true
  | .non, _ => rfl
  | .bl b, _ => by simp [D.eqv]
  | .int i, _ => by simp [D.eqv]
  | .str i, _ => by simp [D.eqv]
  | .tup xs, p => by unfold D.plain at p; simp only [D.eqv]; exact eqvs_refl xs p
  | .lst xs, p => by unfold D.plain at p; simp only [D.eqv]; exact eqvs_refl xs p
  | .dic _ _, p => by simp [D.plain] at p
  | .exc _ _, p => by simp [D.plain] at p
  | .town, p => by simp [D.plain] at p
  | .scr _, p => by simp [D.plain] at p
theorem eqvs_refl : ∀ (xs : List D), D.plain.plains xs = true → D.eqv.eqvs xs xs = true
  | [], _ => by simp [D.eqv.eqvs]
  | x :: xs, p => by
    simp only [D.plain.plains, Bool.and_eq_true] at p
    simp only [D.eqv.eqvs, Bool.and_eq_true]
    exact ⟨eqv_refl x p.1, eqvs_refl xs p.2⟩
end
mutual
theorem lt_tri : ∀ (a b : D), a.plain = true → a.alike b = true → a.lt b = false → b.lt a = false → a = b
  | .non, b, _, h, _, _ => by cases b <;> simp_all [D.alike]
  | .bl x, b, _, h, e, f => by cases b <;> simp_all [D.alike, D.lt] <;> (cases x <;> simp_all)
  | .int x, b, _, h, e, f => by
    cases b <;> simp_all [D.alike, D.lt]
    omega
  | .str x, b, _, h, e, f => by
    cases b with
    | str y =>
      simp only [D.lt, strLt, decide_eq_false_iff_not] at e f
      obtain ⟨⟨lx⟩⟩ := x
      obtain ⟨⟨ly⟩⟩ := y
      have : lx = ly := by
        simp only at e f
        exact Std.Antisymm.antisymm (r := (· ≤ ·)) lx ly (List.not_lt.mp f) (List.not_lt.mp e)
      rw [this]
    | _ => simp [D.alike] at h
  | .tup xs, b, p, h, e, f => by
    cases b with
    | tup ys => unfold D.plain at p; simp only [D.alike] at h; simp only [D.lt] at e f; rw [lts_tri xs ys p h e f]
    | _ => simp [D.alike] at h
  | .lst xs, b, p, h, e, f => by
    cases b with
    | lst ys => unfold D.plain at p; simp only [D.alike] at h; simp only [D.lt] at e f; rw [lts_tri xs ys p h e f]
    | _ => simp [D.alike] at h
  | .dic _ _, b, p, _, _, _ => by simp [D.plain] at p
  | .exc _ _, b, p, _, _, _ => by simp [D.plain] at p
  | .town, b, p, _, _, _ => by simp [D.plain] at p
  | .scr _, b, p, _, _, _ => by simp [D.plain] at p
theorem lts_tri : ∀ (xs ys : List D), D.plain.plains xs = true → D.alike.alikes xs ys = true → D.lt.lts xs ys = false → D.lt.lts ys xs = false → xs = ys
  | [], [], _, _, _, _ => rfl
  | [], _ :: _, _, _, e, _ => by simp [D.lt.lts] at e
  | _ :: _, [], _, _, _, f => by simp [D.lt.lts] at f
  | x :: xs, y :: ys, p, h, e, f => by
    simp only [D.plain.plains, Bool.and_eq_true] at p
    simp only [D.alike.alikes, Bool.and_eq_true] at h
    simp only [D.lt.lts] at e f
    rw [eqv_comm y x] at f
    by_cases q : x.eqv y = true
    · rw [if_pos q] at e f
      rw [eqv_eq x y p.1 h.1 q, lts_tri xs ys p.2 h.2 e f]
    · rw [if_neg q] at e f
      have z := lt_tri x y p.1 h.1 e f
      subst z
      exact absurd (eqv_refl x p.1) q
end
/-- data one may sort -/
def Lots (xs : List D) : Prop := ∀ a ∈ xs, (a.plain = true ∧ a.depth ≤ 60 ∧ a ≠ .non) ∧ ∀ b ∈ xs, a.alike b = true
theorem Lots.lt {xs : List D} (h : Lots xs) {a b : D} (ha : a ∈ xs) (hb : b ∈ xs) : PySem.W.dataLt a.py b.py = a.lt b := py_lt a b (h a ha).1.1 (h b hb).1.1 ((h a ha).2 b hb) (h a ha).1.2.2
theorem insS_perm (x : D) : ∀ ys : List D, (insS x ys).Perm (x :: ys)
  | [] => .refl _
  | y :: ys => by
    unfold insS
    split
    · exact ((insS_perm x ys).cons y).trans (List.Perm.swap x y ys)
    · exact .refl _
theorem sortD_perm : ∀ xs : List D, (sortD xs).Perm xs
  | [] => .refl _
  | x :: xs => (insS_perm x (sortD xs)).trans ((sortD_perm xs).cons x)
theorem le_iff (a b : D) : PySem.W.dataLe false D.py a b = true ↔ PySem.W.dataLt b.py a.py = false := by
  show (!PySem.W.dataLt b.py a.py) = true ↔ _
  simp
theorem le_trans' (a b c : D) (h1 : PySem.W.dataLe false D.py a b = true) (h2 : PySem.W.dataLe false D.py b c = true) : PySem.W.dataLe false D.py a c = true := (PySem.W.sortLe_total _ false _).trans a b c h1 h2
theorem le_total' (a b : D) : PySem.W.dataLe false D.py a b = true ∨ PySem.W.dataLe false D.py b a = true := by
  have := (PySem.W.sortLe_total (listOrd itemOrd) false fun b : D => PySem.W.keyToks b.py).total a b
  exact this
theorem insS_pw (x : D) : ∀ ys : List D, (∀ y ∈ ys, PySem.W.dataLt y.py x.py = y.lt x) → ys.Pairwise (fun a b => PySem.W.dataLe false D.py a b = true) → (insS x ys).Pairwise (fun a b => PySem.W.dataLe false D.py a b = true)
  | [], _, _ => by unfold insS; simp
  | y :: ys, hm, h => by
    rw [List.pairwise_cons] at h
    unfold insS
    split
    · rename_i hlt
      rw [List.pairwise_cons]
      refine ⟨fun z hz => ?_, insS_pw x ys (fun z hz => hm z (List.mem_cons_of_mem _ hz)) h.2⟩
      rcases List.mem_cons.mp ((insS_perm x ys).mem_iff.mp hz) with e | hz
      · subst e
        rcases le_total' y z with q | q
        · exact q
        · rw [le_iff, hm y List.mem_cons_self, hlt] at q
          cases q
      · exact h.1 z hz
    · rename_i hlt
      have hx : PySem.W.dataLe false D.py x y = true := by
        rw [le_iff, hm y List.mem_cons_self]
        simpa using hlt
      rw [List.pairwise_cons]
      refine ⟨fun z hz => ?_, List.pairwise_cons.mpr h⟩
      rcases List.mem_cons.mp hz with e | hz
      · subst e; exact hx
      · exact le_trans' x y z hx (h.1 z hz)
theorem sortD_pw : ∀ xs : List D, Lots xs → (sortD xs).Pairwise (fun a b => PySem.W.dataLe false D.py a b = true)
  | [], _ => by unfold sortD; simp
  | x :: xs, h => by
    unfold sortD
    refine insS_pw x _ (fun y hy => ?_) (sortD_pw xs fun a ha => ⟨(h a (List.mem_cons_of_mem _ ha)).1, fun b hb => (h a (List.mem_cons_of_mem _ ha)).2 b (List.mem_cons_of_mem _ hb)⟩)
    exact h.lt (List.mem_cons_of_mem _ ((sortD_perm xs).mem_iff.mp hy)) List.mem_cons_self
theorem sort_eq (xs : List D) (h : Lots xs) : xs.mergeSort (PySem.W.dataLe false D.py) = sortD xs := by
  have p1 : (xs.mergeSort (PySem.W.dataLe false D.py)).Perm xs := List.mergeSort_perm _ _
  refine List.Perm.eq_of_pairwise (le := fun a b => PySem.W.dataLe false D.py a b = true) (fun a b ha hb h1 h2 => ?_) (List.pairwise_mergeSort le_trans' (fun a b => by simpa using le_total' a b) xs) (sortD_pw xs h) (p1.trans (sortD_perm xs).symm)
  have ha := p1.mem_iff.mp ha
  have hb := (sortD_perm xs).mem_iff.mp hb
  rw [le_iff, h.lt hb ha] at h1
  rw [le_iff, h.lt ha hb] at h2
  exact lt_tri a b (h a ha).1.1 ((h a ha).2 b hb) h2 h1
theorem sortable_lots {xs : List D} (h : sortable xs = true) : Lots xs ∧ PySem.W.Sortable (xs.map D.py) ∧ PySem.W.AllAlike (xs.map D.py) := by
  unfold sortable allAlike at h
  simp only [Bool.and_eq_true, List.all_eq_true, Bool.or_eq_true] at h
  obtain ⟨h1, h2⟩ := h
  have hn : ∀ a ∈ xs, a ≠ .non := fun a ha e => by
    subst e
    rcases h2 with h2 | h2
    · have := h2 _ ha; simp [nonEmptyTup] at this
    · have := h2 _ ha; simp [noTup] at this
  refine ⟨fun a ha => ⟨⟨(okEq_shaped (h1 a ha).1).1, (okEq_shaped (h1 a ha).1).2.2, hn a ha⟩, fun b hb => (h1 a ha).2 b hb⟩, ?_, ?_⟩
  · rcases h2 with h2 | h2
    · refine .inl fun d hd => ?_
      obtain ⟨a, ha, rfl⟩ := List.mem_map.mp hd
      have := h2 a ha
      cases a with
      | tup ys =>
        cases ys with
        | nil => simp [nonEmptyTup] at this
        | cons y ys => exact ⟨y.py, D.py.pys ys, by simp [D.py, D.py.pys]⟩
      | _ => simp [nonEmptyTup] at this
    · refine .inr fun d hd => ?_
      obtain ⟨a, ha, rfl⟩ := List.mem_map.mp hd
      have := h2 a ha
      have hp := (okEq_shaped (h1 a ha).1).1
      cases a <;> simp_all [noTup, D.py, D.plain]
  · intro d hd d' hd'
    obtain ⟨a, ha, rfl⟩ := List.mem_map.mp hd
    obtain ⟨b, hb, rfl⟩ := List.mem_map.mp hd'
    exact py_alike a b ((h1 a ha).2 b hb)
theorem each_pairs {K : PySem.W.Frag} {w : World} {H : Hp} {G : Gs} : ∀ {ds : List D} {vs : List V} {its : List Value}, Val.Vals' K w C H G ds 0 vs → Vals vs its →
    PySem.W.EachIs (fun v (b : V × D) => RelV b.1 v ∧ Val K w C H G b.2 0 b.1) its (vs.zip ds) ∧ (vs.zip ds).map (·.2) = ds
  | [], _, _, h, r => by unfold Val.Vals' at h; subst h; cases r; exact ⟨.nil, rfl⟩
  | d :: ds, _, _, h, r => by
    unfold Val.Vals' at h
    obtain ⟨v, r', rfl, h1, h2⟩ := h
    cases r with
    | cons r1 r2 =>
      obtain ⟨a, b⟩ := each_pairs h2 r2
      exact ⟨.cons ⟨r1, h1⟩ a, by simpa using b⟩
theorem pairs_each {K : PySem.W.Frag} {w : World} {H : Hp} {G : Gs} : ∀ {bs : List (V × D)} {its : List Value}, PySem.W.EachIs (fun v (b : V × D) => RelV b.1 v ∧ Val K w C H G b.2 0 b.1) its bs → Vals (bs.map (·.1)) its ∧ Val.Vals' K w C H G (bs.map (·.2)) 0 (bs.map (·.1))
  | [], _, h => by cases h; exact ⟨.nil, by unfold Val.Vals'; rfl⟩
  | b :: bs, _, h => by
    cases h with
    | cons h1 h2 =>
      obtain ⟨a, c⟩ := pairs_each h2
      exact ⟨.cons h1.1 a, by rw [List.map_cons, List.map_cons]; unfold Val.Vals'; exact ⟨_, _, rfl, h1.2, c⟩⟩
theorem sorted_fin {pins : List (Addr × Obj)} {s : Shared} {σ : L2.St} {H : Hp} {Q : VK} (I : Inv X pins σ H s) {G : Gs} {ds : List D} {vs : List V} {its : List Value} (hv : Val.Vals' X.K X.w C H G ds 0 vs) (rv : Vals vs its) (hz : vs.length ≤ sizeLine) (hs : sortable ds = true)
    (q : NewQ X.K X.w C H G 1 (.lst (sortD ds)) Q) {u : Value}
    (rule : ∀ {R : Value → V × D → Prop} {Q' : Value → Shared → Prop}, PySem.W.EachIs R its (vs.zip ds) → PySem.W.EachIs (fun v (b : V × D) => ∃ as, Reads s.heap v b.2.py as) its (vs.zip ds) → PySem.W.AllAlike ((vs.zip ds).map fun b => b.2.py) → PySem.W.Sortable ((vs.zip ds).map fun b => b.2.py) → (vs.zip ds).length ≤ sizeLine → (∀ b ∈ vs.zip ds, b.2.py.depth ≤ 60) →
      (∀ out, out.length = (vs.zip ds).length → PySem.W.EachIs R out ((vs.zip ds).mergeSort (PySem.W.dataLe false fun b => b.2.py)) → Q' (.ref (s.heap.objs.size + 1)) { s with heap := sortedAll s.heap its (List.toArray out) }) → wpAny (model X.prog X.w) X.A (call (.builtin "sorted") [u]) Q' X.xe s) :
    wpAny (model X.prog X.w) X.A (call (.builtin "sorted") [u]) (EP X pins σ Q) X.xe s := by
  obtain ⟨l1, l2, l3⟩ := sortable_lots hs
  obtain ⟨e1, e2⟩ := each_pairs hv rv
  have em : (vs.zip ds).map (fun b => b.2.py) = ds.map D.py := by
    conv => rhs; rw [← e2]
    rw [List.map_map]; rfl
  have hlen : (vs.zip ds).length = ds.length := by rw [← e2, List.length_map]; simp [e2]
  refine rule e1 ?_ (by rw [em]; exact l3) (by rw [em]; exact l2) (by rw [hlen, ← Vals'.length hv]; exact hz) (fun b hb => ?_) fun out ho he => ?_
  · refine (PySem.W.each_mem e1).mono fun v b hb => ?_
    have hb2 : b.2 ∈ ds := by rw [← e2]; exact List.mem_map.mpr ⟨b, hb.2, rfl⟩
    exact Dp.reads I _ _ _ (Val.dp _ _ _ (l1 _ hb2).1.1 hb.1.2) hb.1.1
  · have hb2 : b.2 ∈ ds := by rw [← e2]; exact List.mem_map.mpr ⟨b, hb, rfl⟩
    rw [py_depth _ (l1 _ hb2).1.1]
    exact (l1 _ hb2).1.2.1
  · obtain ⟨f1, f2⟩ := pairs_each he
    have f3 : ((vs.zip ds).mergeSort (PySem.W.dataLe false fun b => b.2.py)).map (·.2) = sortD ds := by
      refine (List.map_mergeSort (r := PySem.W.dataLe false fun b : V × D => b.2.py) (s := PySem.W.dataLe false D.py) (f := fun b : V × D => b.2) (l := vs.zip ds) (fun a _ b _ => rfl)).trans ?_
      rw [e2, sort_eq ds l1]
    rw [f3] at f2
    obtain ⟨ep, he'⟩ := PyProof.Rows.sortedAll_at s.heap its (List.toArray out)
    have hl : (((vs.zip ds).mergeSort (PySem.W.dataLe false fun b => b.2.py)).map (·.1)).length ≤ sizeLine := by
      rw [Vals'.length f2, (sortD_perm ds).length_eq, ← Vals'.length hv]; exact hz
    have hf : H (s.heap.objs.size + 1) = none := I.hok.fresh (Nat.le_succ _)
    exact ⟨.ref _, upd H (s.heap.objs.size + 1) (.lst _), I.laid (t' := s.toks) (fun _ _ => PyProof.Rows.sortedAll_old) (Nat.le_succ _) ⟨hl, out, ep, f1, he'⟩, rfl, q.lst f2 _ hf⟩
theorem c_sorted (hu : X.A.units + 65 < cLine) : CallR X (.builtin "sorted") (rPrm X.K X.w C .sorted) := by
  intro pins s σ H xs us Q I rs h
  obtain ⟨G, ds, z, h, hp, q⟩ := h
  simp only [primD, Prim.look, dpP] at h hp q
  unfold sortedD at hp
  split at hp
  · split at hp
    · rename_i hs
      cases hp
      obtain ⟨v, rfl, hv⟩ := h.one
      unfold Val at hv
      obtain ⟨a, vs, rfl, ha, hv⟩ := hv
      obtain ⟨u, rfl, ru⟩ := vals1 rs
      cases ru
      obtain ⟨its, rv, hl, hz⟩ := I.tuple (SqT.of ha)
      exact sorted_fin I hv rv hz hs q fun e1 e2 e3 e4 e5 e6 k => sorted_dataT hl e1 e2 e3 e4 e5 (fun b hb => by have := e6 b hb; omega) k
    · cases hp
  · split at hp
    · rename_i hs
      cases hp
      obtain ⟨v, rfl, hv⟩ := h.one
      unfold Val at hv
      obtain ⟨a, vs, rfl, ha, _, _, hv⟩ := hv
      obtain ⟨u, rfl, ru⟩ := vals1 rs
      cases ru
      obtain ⟨its, rv, hl, hz⟩ := I.list (SqL.of ha)
      exact sorted_fin I hv rv hz hs q fun e1 e2 e3 e4 e5 e6 k => PySem.W.sorted_data hl.isList e1 e2 e3 e4 e5 (fun b hb => by have := e6 b hb; omega) k
    · cases hp
  · cases hp
theorem greatD_py : ∀ (r : List D) (x : D), Lots (x :: r) → (greatD x r).py = (D.py.pys r).foldl (fun a y => if PySem.W.dataLt a y then y else a) x.py ∧ greatD x r ∈ x :: r
  | [], x, _ => ⟨rfl, List.mem_cons_self⟩
  | y :: r, x, h => by
    unfold greatD
    simp only [D.py.pys, List.foldl_cons]
    have e := h.lt (a := x) (b := y) List.mem_cons_self (List.mem_cons_of_mem _ List.mem_cons_self)
    rw [e]
    have hy : Lots ((if x.lt y then y else x) :: r) := by
      have : ∀ a ∈ (if x.lt y then y else x) :: r, a ∈ x :: y :: r := fun a ha => by
        rcases List.mem_cons.mp ha with ha | ha
        · subst ha; split <;> simp
        · simp [ha]
      exact fun a ha => ⟨(h a (this a ha)).1, fun b hb => (h a (this a ha)).2 b (this b hb)⟩
    obtain ⟨k1, k2⟩ := greatD_py r _ hy
    constructor
    · rw [k1]; congr 1; split <;> rfl
    · rcases List.mem_cons.mp k2 with k | k
      · rw [k]; split <;> simp
      · simp [k]
theorem leastD_py : ∀ (r : List D) (x : D), Lots (x :: r) → (leastD x r).py = (D.py.pys r).foldl (fun a y => if PySem.W.dataLt y a then y else a) x.py ∧ leastD x r ∈ x :: r
  | [], x, _ => ⟨rfl, List.mem_cons_self⟩
  | y :: r, x, h => by
    unfold leastD
    simp only [D.py.pys, List.foldl_cons]
    have e := h.lt (a := y) (b := x) (List.mem_cons_of_mem _ List.mem_cons_self) List.mem_cons_self
    rw [e]
    have hy : Lots ((if y.lt x then y else x) :: r) := by
      have : ∀ a ∈ (if y.lt x then y else x) :: r, a ∈ x :: y :: r := fun a ha => by
        rcases List.mem_cons.mp ha with ha | ha
        · subst ha; split <;> simp
        · simp [ha]
      exact fun a ha => ⟨(h a (this a ha)).1, fun b hb => (h a (this a ha)).2 b (this b hb)⟩
    obtain ⟨k1, k2⟩ := leastD_py r _ hy
    constructor
    · rw [k1]; congr 1; split <;> rfl
    · rcases List.mem_cons.mp k2 with k | k
      · rw [k]; split <;> simp
      · simp [k]
theorem py_inj {a b : D} (ha : a.plain = true) (hb : b.plain = true) (h : a.alike b = true) (e : a.py = b.py) : a = b := by
  refine eqv_eq a b ha h ?_
  rw [← py_eqv a b ha hb, ← e, py_eqv a a ha ha]
  exact eqv_refl a ha
theorem mm_lots {xs : List D} (h : (allAlike xs && xs.all fun d => !isNon d) = true) : Lots xs ∧ PySem.W.AlikeAll (D.py.pys xs) ∧ D.depth.deps xs ≤ 60 ∧ D.plain.plains xs = true := by
  unfold allAlike at h
  simp only [Bool.and_eq_true, List.all_eq_true] at h
  obtain ⟨h1, h2⟩ := h
  have hn : ∀ a ∈ xs, a ≠ .non := fun a ha e => by subst e; have := h2 _ ha; simp [isNon] at this
  have hL : Lots xs := fun a ha => ⟨⟨(okEq_shaped (h1 a ha).1).1, (okEq_shaped (h1 a ha).1).2.2, hn a ha⟩, fun b hb => (h1 a ha).2 b hb⟩
  have pm : ∀ (ys : List D) d, d ∈ D.py.pys ys → ∃ a ∈ ys, d = a.py := fun ys => by
    induction ys with
    | nil => intro d hd; simp [D.py.pys] at hd
    | cons y ys ih =>
      intro d hd
      simp only [D.py.pys, List.mem_cons] at hd
      rcases hd with hd | hd
      · exact ⟨y, List.mem_cons_self, hd⟩
      · obtain ⟨a, h1, h2⟩ := ih d hd
        exact ⟨a, List.mem_cons_of_mem _ h1, h2⟩
  refine ⟨hL, ⟨fun d hd e he => ?_, fun d hd => ?_⟩, ?_, ?_⟩
  · obtain ⟨a, ha, rfl⟩ := pm xs d hd
    obtain ⟨b, hb, rfl⟩ := pm xs e he
    exact py_alike a b ((hL a ha).2 b hb)
  · obtain ⟨a, ha, rfl⟩ := pm xs d hd
    exact py_ne (hL a ha).1.1 (hL a ha).1.2.2
  · clear pm hn h1 h2
    induction xs with
    | nil => simp [D.depth.deps]
    | cons x xs ih =>
      simp only [D.depth.deps]
      have := (hL x List.mem_cons_self).1.2.1
      have := ih fun a ha => ⟨(hL a (List.mem_cons_of_mem _ ha)).1, fun b hb => (hL a (List.mem_cons_of_mem _ ha)).2 b (List.mem_cons_of_mem _ hb)⟩
      omega
  · clear pm hn h1 h2
    induction xs with
    | nil => simp [D.plain.plains]
    | cons x xs ih =>
      simp only [D.plain.plains, Bool.and_eq_true]
      exact ⟨(hL x List.mem_cons_self).1.1, ih fun a ha => ⟨(hL a (List.mem_cons_of_mem _ ha)).1, fun b hb => (hL a (List.mem_cons_of_mem _ ha)).2 b (List.mem_cons_of_mem _ hb)⟩⟩
/-- the item found is the one -/
theorem mm_fin {pins : List (Addr × Obj)} {s : Shared} {σ : L2.St} {H : Hp} {Q : VK} (I : Inv X pins σ H s) {G : Gs} {ds : List D} {vs : List V} {its : List Value} (hv : Val.Vals' X.K X.w C H G ds 0 vs) (rv : Vals vs its) (hL : Lots ds) {z : D} (hz : z ∈ ds) (q : NewQ X.K X.w C H G 0 z Q)
    {i : Nat} {v : Value} {h' : Heap} {tk : Nat} {bs : List Addr} (e : its.toArray[i]? = some v) (r : Reads h' v z.py bs) (k : ∀ b o, s.heap.get? b = some o → h'.get? b = some o) : EP X pins σ Q v { s with heap := h', toks := tk } := by
  have e : its[i]? = some v := by simpa using e
  have hi : i < ds.length := by rw [← Vals'.length hv, rv.length]; exact (List.getElem?_eq_some_iff.mp e).1
  obtain ⟨x, hx, hval⟩ := Vals'.nth hv (List.getElem?_eq_getElem hi)
  obtain ⟨u, hu, ru⟩ := rv.get hx
  rw [e] at hu; cases hu
  have hm : ds[i] ∈ ds := List.getElem_mem hi
  obtain ⟨as, r2⟩ := Dp.reads I _ _ _ (Val.dp _ _ _ (hL _ hm).1.1 hval) ru
  have r3 := PySem.W.reads_keeps k r2
  have c1 := SeqAt.readOf_eq (py_lay _ (hL _ hm).1.1) r3
  have c2 := SeqAt.readOf_eq (py_lay _ (hL _ hz).1.1) r
  have ez : ds[i] = z := py_inj (hL _ hm).1.1 (hL _ hz).1.1 ((hL _ hm).2 _ hz) (c1.symm.trans c2)
  rw [ez] at hval
  exact ⟨x, H, I.kept k, ru, q x H [] (fun _ _ h => h) (Own.zero hval) List.nodup_nil (fun _ h => nomatch h)⟩
theorem c_max (hc : X.calm = true) (hu : X.A.units + 65 < cLine) : CallR X (.builtin "max") (rPrm X.K X.w C .max) := by
  intro pins s σ H xs us Q I rs h
  obtain ⟨G, ds, z, h, hp, q⟩ := h
  simp only [primD, Prim.look, dpP] at h hp q
  unfold mxD at hp
  split at hp
  · obtain ⟨ys, h1, hp⟩ := Option.bind_eq_some_iff.mp hp
    split at hp
    · rename_i hs
      obtain ⟨v, rfl, hv⟩ := h.one
      obtain ⟨a, vs, rfl, hsq, hv⟩ := seq_val h1 (n := 0) hv
      obtain ⟨l1, l2, l3, l4⟩ := mm_lots hs
      cases ys with
      | nil => cases hp
      | cons y r =>
        cases hp
        obtain ⟨g1, g2⟩ := greatD_py r y l1
        obtain ⟨u, rfl, ru⟩ := vals1 rs
        cases ru
        rcases hsq with hq | hq
        · obtain ⟨its, rv, hl, hz⟩ := I.list hq
          obtain ⟨as, hr⟩ := Dp.readsAll I _ _ _ (Vals'.dp _ _ vs l4 hv) rv
          exact PySem.W.max_list_data (I.ok.hd hc) hl.isList (x := y.py) (xs := D.py.pys r) (by simp only [D.py.pys] at hr; simpa using hr) l2 (by show _ + PyData.depthAll (D.py.pys (y :: r)) < _; rw [pys_depth _ l4]; omega) fun i v h' tk bs e r k => mm_fin I hv rv l1 g2 q e (by rw [g1]; exact r) k
        · obtain ⟨its, rv, hl, hz⟩ := I.tuple hq
          obtain ⟨as, hr⟩ := Dp.readsAll I _ _ _ (Vals'.dp _ _ vs l4 hv) rv
          exact PySem.W.max_tuple_data (I.ok.hd hc) hl (x := y.py) (xs := D.py.pys r) (by simp only [D.py.pys] at hr; simpa using hr) l2 (by show _ + PyData.depthAll (D.py.pys (y :: r)) < _; rw [pys_depth _ l4]; omega) fun i v h' tk bs e r k => mm_fin I hv rv l1 g2 q e (by rw [g1]; exact r) k
    · cases hp
  · cases hp
theorem c_min (hc : X.calm = true) (hu : X.A.units + 65 < cLine) : CallR X (.builtin "min") (rPrm X.K X.w C .min) := by
  intro pins s σ H xs us Q I rs h
  obtain ⟨G, ds, z, h, hp, q⟩ := h
  simp only [primD, Prim.look, dpP] at h hp q
  unfold mnD at hp
  split at hp
  · obtain ⟨ys, h1, hp⟩ := Option.bind_eq_some_iff.mp hp
    split at hp
    · rename_i hs
      obtain ⟨v, rfl, hv⟩ := h.one
      obtain ⟨a, vs, rfl, hsq, hv⟩ := seq_val h1 (n := 0) hv
      obtain ⟨l1, l2, l3, l4⟩ := mm_lots hs
      cases ys with
      | nil => cases hp
      | cons y r =>
        cases hp
        obtain ⟨g1, g2⟩ := leastD_py r y l1
        obtain ⟨u, rfl, ru⟩ := vals1 rs
        cases ru
        rcases hsq with hq | hq
        · obtain ⟨its, rv, hl, hz⟩ := I.list hq
          obtain ⟨as, hr⟩ := Dp.readsAll I _ _ _ (Vals'.dp _ _ vs l4 hv) rv
          exact PySem.W.min_list_data (I.ok.hd hc) hl.isList (x := y.py) (xs := D.py.pys r) (by simp only [D.py.pys] at hr; simpa using hr) l2 (by show _ + PyData.depthAll (D.py.pys (y :: r)) < _; rw [pys_depth _ l4]; omega) fun i v h' tk bs e r k => mm_fin I hv rv l1 g2 q e (by rw [g1]; exact r) k
        · obtain ⟨its, rv, hl, hz⟩ := I.tuple hq
          obtain ⟨as, hr⟩ := Dp.readsAll I _ _ _ (Vals'.dp _ _ vs l4 hv) rv
          exact PySem.W.min_tuple_data (I.ok.hd hc) hl (x := y.py) (xs := D.py.pys r) (by simp only [D.py.pys] at hr; simpa using hr) l2 (by show _ + PyData.depthAll (D.py.pys (y :: r)) < _; rw [pys_depth _ l4]; omega) fun i v h' tk bs e r k => mm_fin I hv rv l1 g2 q e (by rw [g1]; exact r) k
    · cases hp
  · cases hp
end
end Hx
namespace Hx
open PySem PySem.Spec PyProof.Rows L2
/-- J walks the data ds, while what stands at H1 stands -/
def WkD (K : PySem.W.Frag) (w : World) (C : Str → Addr) (H1 : Hp) (G1 : Gs) (ds : List D) (J : It) : Prop :=
  ∀ H G, Sty H1 G1 H G → (∀ i, i < ds.length → J.go i H) ∧ J.stop ds.length H ∧ ∀ i x H' d, ds[i]? = some d → J.yld i H x H' → (∀ a ob, H a = some ob → H' a = some ob) ∧ Val K w C H' G d 0 x
section
variable {K : PySem.W.Frag} {w : World} {C : Str → Addr} {H1 : Hp} {G1 : Gs}
/-- an item that stands already -/
theorem wk_at {ds : List D} {vs : List V} {J : It} {P : Hp → Prop} (hv : Val.Vals' K w C H1 G1 ds 0 vs) (hP : ∀ H G, Sty H1 G1 H G → P H)
    (W : Walk J ds.length P (YAt vs)) : WkD K w C H1 G1 ds J := fun H G st => by
  refine ⟨fun i hi => W.goes i H hi (hP H G st), W.stops H (hP H G st), fun i x H' d hd hy => ?_⟩
  have hi := (List.getElem?_eq_some_iff.mp hd).1
  obtain ⟨e, hx⟩ := W.yields i H x H' hi (hP H G st) hy
  subst e
  obtain ⟨v, hv1, hv2⟩ := Vals'.nth hv hd
  rw [hx] at hv1; cases hv1
  exact ⟨fun _ _ h => h, hv2.sty st⟩
theorem wk_fn {ds : List D} {J : It} {f : Nat → V} (hf : ∀ i d, ds[i]? = some d → ∀ H G, Val K w C H G d 0 (f i))
    (W : Walk J ds.length (fun _ => True) (YFn f)) : WkD K w C H1 G1 ds J := fun H G st => by
  refine ⟨fun i hi => W.goes i H hi trivial, W.stops H trivial, fun i x H' d hd hy => ?_⟩
  have hi := (List.getElem?_eq_some_iff.mp hd).1
  obtain ⟨e, hx⟩ := W.yields i H x H' hi trivial hy
  subst e hx
  exact ⟨fun _ _ h => h, hf i d hd H' G⟩
/-- new pairs -/
theorem wk_pair {ds es : List D} {vs us : Nat → Option V} {J : It} {P : Hp → Prop} {n : Nat} (hn : n = ds.length) (hl : ds.length = es.length)
    (h1 : ∀ i d, ds[i]? = some d → ∀ v, vs i = some v → Val K w C H1 G1 d 0 v) (h2 : ∀ i d, es[i]? = some d → ∀ v, us i = some v → Val K w C H1 G1 d 0 v) (hP : ∀ H G, Sty H1 G1 H G → P H)
    (W : Walk J n P (YPair vs us)) : WkD K w C H1 G1 ((ds.zip es).map fun p => .tup [p.1, p.2]) J := fun H G st => by
  have hlen : ((ds.zip es).map fun p : D × D => D.tup [p.1, p.2]).length = n := by rw [List.length_map, List.length_zip, hn]; omega
  rw [hlen]
  refine ⟨fun i hi => W.goes i H hi (hP H G st), W.stops H (hP H G st), fun i x H' d hd hy => ?_⟩
  have hi : i < n := by rw [← hlen]; exact (List.getElem?_eq_some_iff.mp hd).1
  obtain ⟨T, x1, y1, rfl, hT, rfl, e1, e2⟩ := W.yields i H x H' hi (hP H G st) hy
  refine ⟨grow_upd hT, ?_⟩
  rw [List.getElem?_map] at hd
  obtain ⟨p, hp, rfl⟩ := Option.map_eq_some_iff.mp hd
  rw [List.getElem?_zip_eq_some] at hp
  unfold Val
  refine ⟨T, [x1, y1], rfl, upd_same, ?_⟩
  refine Vals'.grow (grow_upd hT) ?_
  unfold Val.Vals'
  refine ⟨x1, [y1], rfl, (h1 i p.1 hp.1 x1 e1).sty st, ?_⟩
  unfold Val.Vals'
  refine ⟨y1, [], rfl, (h2 i p.2 hp.2 y1 e2).sty st, ?_⟩
  unfold Val.Vals'
  rfl
end
/-- a value's iterator -/
def IterR (X : Cx) (r : V → Hp → (It → Hp → Prop) → Prop) : Prop :=
  ∀ (tg : Expr) (pins : List (Addr × Obj)) (s : Shared) (σ : L2.St) (H : Hp) (x : V) (v : Value) (R : It → Hp → Prop), Inv X pins σ H s → RelV x v → r x H R → wpAny (model X.prog X.w) X.A (pyIter v) (PIE X pins σ tg R) X.xe s
section
variable {X : Cx} {C : Str → Addr}
theorem pi_iter {r : V → Hp → (It → Hp → Prop) → Prop} {tg l : Expr} {tl : TE} (hl : PE X l tl) (hr : IterR X r) : PI X tg l (fun σ H R => tl σ H fun x H1 => r x H1 R) :=
  ⟨fun pins s σ H R I h => thn (hl.run pins s σ H _ I h) fun v s1 ⟨x, H1, I1, r1, q1⟩ => hr tg pins s1 σ H1 x v R I1 r1 q1⟩
theorem it_list : IterR X (fun x H R => ∃ a xs, x = .ref a ∧ SqL X.K H a xs ∧ R (Itl X.K a) H) := by
  intro tg pins s1 σ H1 x v R I1 r1 ⟨a, xs, e, hq, q⟩
  subst e
  cases r1
  obtain ⟨its, rv, p, hz⟩ := I1.list hq
  refine wpAny_pyIter_list p.isList ?_
  refine ⟨s1.heap.objs.size, [s1.heap.objs.size], _, _, H1, rfl, I1.kept (t' := s1.toks) fun b o e => Heap.get?_push_of_some _ e, turn_list a _, ⟨_, Heap.get?_push_size _ rfl, rfl, rfl⟩, fun b hb => ?_, q⟩
  have e : b = s1.heap.objs.size := by simpa using hb
  subst e
  exact I1.fpOk (Nat.le_refl _) (I1.hok.fresh (Nat.le_refl _))
theorem it_tup : IterR X (fun x H R => ∃ a xs, x = .ref a ∧ SqT X.K H a xs ∧ R (Itt X.K a) H) := by
  intro tg pins s1 σ H1 x v R I1 r1 ⟨a, xs, e, hq, q⟩
  subst e
  cases r1
  obtain ⟨its, rv, p, hz⟩ := I1.tuple hq
  refine wpAny_pyIter_tuple (show s1.heap.IsTuple a its.toArray from p) ?_
  refine ⟨s1.heap.objs.size, [s1.heap.objs.size], _, _, H1, rfl, I1.kept (t' := s1.toks) fun b o e => Heap.get?_push_of_some _ e, turn_tuple a _, ⟨_, Heap.get?_push_size _ rfl, rfl, rfl⟩, fun b hb => ?_, q⟩
  have e : b = s1.heap.objs.size := by simpa using hb
  subst e
  exact I1.fpOk (Nat.le_refl _) (I1.hok.fresh (Nat.le_refl _))
theorem it_str : IterR X (fun v H R => ∃ x, v = .str x ∧ R (Its x) H) := by
  intro tg pins s1 σ H1 y v R I1 r1 ⟨x, ex, q⟩
  subst ex
  obtain ⟨t, rfl⟩ := r1
  cases ha : x.cps.all (· < 128)
  · exact wpAny_pyIter_wide ha (pi_one (tk := s1.toks) I1 _ (turn_str _ x t "str_iterator" (.inr rfl)) ⟨_, Heap.get?_push_size _ rfl, rfl, rfl⟩ q)
  · exact wpAny_pyIter_ascii ha (pi_one (tk := s1.toks) I1 _ (turn_str _ x t "str_ascii_iterator" (.inl rfl)) ⟨_, Heap.get?_push_size _ rfl, rfl, rfl⟩ q)
theorem Sty.lst' {H1 H : Hp} {G1 G : Gs} (st : Sty H1 G1 H G) {a : Addr} {o : HO} (h : H1 a = some o) (z : G1.Z a) : H a = some o := st.keep a o h (.inl z)
theorem Sty.tup' {H1 H : Hp} {G1 G : Gs} (st : Sty H1 G1 H G) {a : Addr} {xs : List V} (h : H1 a = some (.tup xs)) : H a = some (.tup xs) := st.keep a _ h (.inr (.inl ⟨_, rfl⟩))
/-- what a for finds in a value -/
def rIter (K : PySem.W.Frag) (w : World) (C : Str → Addr) : V → Hp → (It → Hp → Prop) → Prop := fun x H R => ∃ G d ds, GI H G ∧ Val K w C H G d 0 x ∧ iterD d = some ds ∧ ∀ J, WkD K w C H G ds J → R J H
theorem itIter0 (tg : Expr) {pins : List (Addr × Obj)} {s : Shared} {σ : L2.St} {H : Hp} {x : V} {v : Value} {R : It → Hp → Prop} (I : Inv X pins σ H s) (rx : RelV x v) {G : Gs} {d : D} {ds : List D} (g : GI H G)
    (h : Val X.K X.w C H G d 0 x) (e : iterD d = some ds) (q : ∀ J, WkD X.K X.w C H G ds J → R J H) : wpAny (model X.prog X.w) X.A (pyIter v) (PIE X pins σ tg R) X.xe s := by
  unfold iterD at e
  split at e
  · cases e
    unfold Val at h
    obtain ⟨a, vs, rfl, ha, hv⟩ := h
    refine it_tup tg pins s σ H _ v R I rx ⟨a, vs, rfl, SqT.of ha, q _ (wk_at hv (P := fun H => SqT X.K H a vs) (fun H' G' st => SqT.of (st.tup' ha)) ?_)⟩
    rw [← Vals'.length hv]
    exact walk_tup
  · cases e
    unfold Val at h
    obtain ⟨a, vs, rfl, ha, nF, hz, hv⟩ := h
    refine it_list tg pins s σ H _ v R I rx ⟨a, vs, rfl, SqL.of ha, q _ (wk_at hv (P := fun H => SqL X.K H a vs) (fun H' G' st => SqL.of (st.lst' ha (hz rfl))) ?_)⟩
    rw [← Vals'.length hv]
    exact walk_list
  · rename_i z
    cases e
    unfold Val at h
    subst h
    refine it_str tg pins s σ H _ v R I rx ⟨z, rfl, q _ fun H' G' st => ?_⟩
    have hl : (z.cps.toList.map fun c => D.str ⟨#[c]⟩).length = z.cps.size := by simp
    rw [hl]
    have W := walk_str (z := z)
    refine ⟨fun i hi => W.goes i H' hi trivial, W.stops H' trivial, fun i x H2 d hd' hy => ?_⟩
    have hi : i < z.cps.size := by rw [← hl]; exact (List.getElem?_eq_some_iff.mp hd').1
    obtain ⟨e, c, hc, rfl⟩ := W.yields i H' x H2 hi trivial hy
    subst e
    refine ⟨fun _ _ h => h, ?_⟩
    rw [List.getElem?_map, Array.getElem?_toList, hc] at hd'
    cases hd'
    unfold Val
    rfl
  · cases e
theorem itIter : IterR X (rIter X.K X.w C) := fun tg pins s σ H x v R I rx ⟨G, d, ds, g, h, e, q⟩ => itIter0 tg I rx g h e q
def IteT (K : PySem.W.Frag) (a : Addr) : It :=
  ⟨fun i H => ∃ (xs : List V) (x : V), SqT K H a xs ∧ xs[i]? = some x, fun i H v H' => ∃ T x, v = .ref T ∧ H T = none ∧ H' = upd H T (.tup [.int (i : Nat), x]) ∧ ∀ xs, SqT K H a xs → xs[i]? = some x, fun i H => ∃ xs : List V, SqT K H a xs ∧ xs.length = i⟩
theorem walk_enumT {K : PySem.W.Frag} {a : Addr} {xs : List V} : Walk (IteT K a) xs.length (fun H => SqT K H a xs) (YPair (fun i => some (.int (i : Nat))) (fun i => xs[i]?)) := by
  refine ⟨fun i _ hi q => ⟨xs, xs[i], q, by simp [hi]⟩, fun _ q => ⟨xs, q, rfl⟩, fun i H v H' _ q y => ?_⟩
  obtain ⟨T, x, h1, h2, h3, h4⟩ := y
  exact ⟨T, .int (i : Nat), x, h1, h2, h3, rfl, h4 xs q⟩
theorem turn_enumT {P : Program} {w : World} {K : PySem.W.Frag} {elts : List Expr} {kk : Nat} {tpos : Pos} (a e it : Addr) :
    Turn P w K (.Tuple elts kk tpos) (IteT K a) [e, it] e (fun i h => (∃ old, IsEnum h e it ((i : Nat) : Int) old) ∧ h.IsTupleIter it a i ∧ e ≠ it ∧ a ≠ it ∧ e ≠ a) where
  mem := by simp
  obj := fun i h st b hb => by
    obtain ⟨⟨old, he⟩, ⟨o, ho, hc, hd⟩, _⟩ := st
    have e' : b = e ∨ b = it := by simpa using hb
    rcases e' with z | z
    · rw [z]; exact ⟨_, he, fun v q => nomatch q⟩
    · rw [z]; exact ⟨o, ho, fun v q => by rw [hd] at q; cases q⟩
  keep := fun i h h' st k => let ⟨⟨old, he⟩, hi, hne⟩ := st; ⟨⟨old, k e (by simp) _ he⟩, hi.at fun o q => k it (by simp) o q, hne⟩
  item := by
    intro X hP hw hK hc i pins s σ H E I hf st hg
    subst hP hw hK
    obtain ⟨⟨old, he⟩, hit, hne, hai, hea⟩ := st
    obtain ⟨xs, x, hq, hx⟩ := hg
    obtain ⟨its, rv, p, hz⟩ := I.tuple hq
    obtain ⟨u, hu, ru⟩ := rv.get hx
    have hel : e < s.heap.objs.size := Heap.lt_size he
    have hil : it < s.heap.objs.size := by obtain ⟨_, q, _⟩ := hit; exact Heap.lt_size q
    have DD := Draws.tuple (prog := X.prog) (w := X.w) (A := X.A.in1) (I.ok.hd hc) it a hai its.toArray
    refine wpAny_pyNext_enum_itemD DD he ⟨hit, p⟩ (by rw [List.size_toArray, ← rv.length]; exact (List.getElem?_eq_some_iff.mp hx).1) hne (by simp; exact ⟨hne, hea⟩) fun x' h' tk hP ho hit' hT hsz hk => ?_
    have ex : x' = u := by
      have : its[i]? = some x' := by simpa using hP
      rw [hu] at this; cases this; rfl
    subst ex
    refine ⟨_, rfl, wpAny_letOwnedTupleGo_enum (s := { s with heap := h', toks := tk + 1 }) ho fun h'' he' sb => ?_⟩
    have hT2 : h''.get? s.heap.objs.size = some { cls := .type "tuple", data := .seq #[.int i tk, x'] } := (sb.2 _ (Nat.ne_of_gt hel)).trans hT
    have new : ObjOk X.prog X.w (upd H s.heap.objs.size (.tup [.int (i : Nat), x])) h'' s.heap.objs.size (.tup [.int (i : Nat), x]) :=
      ⟨by show 2 ≤ sizeLine; decide, [.int i tk, x'], .cons ⟨_, rfl⟩ (.cons ru .nil), ⟨_, hT2, rfl, _, rfl⟩⟩
    have I1 : Inv X pins σ (upd H s.heap.objs.size (.tup [.int (i : Nat), x])) { s with heap := h'', toks := tk + 1 } :=
      I.turnedNew (ch := [e, it]) (fun b ob hb q => (sb.2 b (fun z => hb (by simp [z]))).trans (hk b ob (fun z => hb (by simp [z])) (fun z => hb (by simp [z])) q)) hf (Nat.le_refl _) new
    refine ⟨.ref s.heap.objs.size, _, I1, rfl, ⟨_, x, rfl, I.hok.fresh (Nat.le_refl _), rfl, fun ys hy => by rw [I.tuple_inj hy hq]; exact hx⟩, ⟨⟨x', ?_⟩, hit'.1.at fun o q => (sb.2 it (Ne.symm hne)).trans q, hne, hai, hea⟩, fun b hb => ?_⟩
    · have e1 : ((i + 1 : Nat) : Int) = (i : Int) + 1 := by omega
      rw [e1]; exact he'
    · have hb' : b < s.heap.objs.size := by
        have e' : b = e ∨ b = it := by simpa using hb
        rcases e' with z | z
        · rw [z]; exact hel
        · rw [z]; exact hil
      rw [upd_ne (Nat.ne_of_lt hb')]
      exact (hf b hb).1
  done := by
    intro X hP hw hK hc i pins s σ H E I hf st hg
    subst hP hw hK
    obtain ⟨⟨old, he⟩, hit, hne, hai, hea⟩ := st
    obtain ⟨xs, hq, hx⟩ := hg
    obtain ⟨its, rv, p, hz⟩ := I.tuple hq
    obtain ⟨f0, f1, f2, f3, f4, f5⟩ := hf it (by simp)
    have hl := rv.length
    have DD := Draws.tuple (prog := X.prog) (w := X.w) (A := X.A.in1) (I.ok.hd hc) it a hai its.toArray
    have ei : i = its.toArray.size := by rw [List.size_toArray]; omega
    subst ei
    exact wpAny_pyNext_enum_endD DD he ⟨hit, p⟩ fun h' eb => ⟨rfl, I.turned (t' := s.toks) (fun b o hb q => eb b o hb q) f0 f1 f3 f4 f5⟩
  self := fun A i s Q E st h => let ⟨⟨_, he⟩, _⟩ := st; wpAny_pyIter_enum he h
theorem meets_enumerate_new1 {v : Value} {o : Obj} {H : Heap → Prop} (B : Begins v o H) :
    Meets (Builtin.«enumerate.__new__» ⟨[.type "enumerate", v], []⟩) (fun _ R s => H s.heap ∧
      R (.ok (.ret (.ref (s.heap.push o).objs.size))) { s with heap := (s.heap.push o).push { cls := .type "enumerate", data := .fields #[.none, .bool false, .ref s.heap.objs.size, rawInt 0, .none, .none] } }) :=
  .of_wp fun prog w A R s h => by
    obtain ⟨hp, g, d, tk, os⟩ := s; obtain ⟨h1, h⟩ := h
    have hsub := sub_enumerate
    have q1 : ∀ {A' : Around} {E : Value → Shared → Prop} {Q : Value → Shared → Prop}, Q (.ref hp.objs.size) ⟨hp.push o, g, d, tk, os⟩ → wpAny (model prog w) A' (pyIter v) Q E ⟨hp, g, d, tk, os⟩ :=
      fun q => B.iter prog w _ _ ⟨hp, g, d, tk, os⟩ _ h1 q
    wp_walk using q1
    refine wpAny_stack_any fun st => wpAny_pure ?_
    split
    · rename_i c _ _ _ _ _
      cases (c == Value.type "enumerate")
      · wp_walk using q1
        exact ⟨_, rfl, h⟩
      · wp_walk using q1
        exact ⟨_, rfl, h⟩
    · wp_walk using q1
      exact ⟨_, rfl, h⟩
theorem call_enumerate_tup {prog : Program} {w : World} {A : Around} {E : Value → Shared → Prop} {s : Shared} {l : Addr} {items : Array Value} {Q : Value → Shared → Prop} (hL : s.heap.IsTuple l items)
    (h : ∀ h', IsEnum h' (s.heap.objs.size + 1) s.heap.objs.size 0 .none → h'.IsTupleIter s.heap.objs.size l 0 → h'.objs.size = s.heap.objs.size + 2 →
      (∀ b o, s.heap.get? b = some o → h'.get? b = some o) → Q (.ref (s.heap.objs.size + 1)) { s with heap := h' }) :
    wpAny (model prog w) A (call (.type "enumerate") [.ref l]) Q E s := by
  refine callType_new F.called_enumerate (by decide) (F.typeCall_enumerate_1 _) (F.newCall_enumerate_1 _) (fun obj => F.args_object_init_2 obj _) F.entry_enumerate_new
    (meets_enumerate_new1 (begins_tuple l items)) ⟨hL, ?_⟩
  have hz : (s.heap.push { cls := .type "tuple_iterator", data := .fields #[.ref l, .int 0 0] }).objs.size = s.heap.objs.size + 1 := Heap.size_push ..
  show _ ∧ _
  rw [hz]
  have he : IsEnum ((s.heap.push { cls := .type "tuple_iterator", data := .fields #[.ref l, .int 0 0] }).push { cls := .type "enumerate", data := .fields #[.none, .bool false, .ref s.heap.objs.size, rawInt 0, .none, .none] }) (s.heap.objs.size + 1) s.heap.objs.size 0 .none := by
    have := Heap.get?_push_size (s.heap.push { cls := .type "tuple_iterator", data := .fields #[.ref l, .int 0 0] }) (o := { cls := .type "enumerate", data := .fields #[.none, .bool false, .ref s.heap.objs.size, rawInt 0, .none, .none] }) rfl
    rw [hz] at this; exact this
  exact ⟨⟨_, he, rfl⟩, h _ he ⟨_, Heap.get?_push_of_some _ (Heap.get?_push_size _ rfl), rfl, rfl⟩ (by rw [Heap.size_push, hz]) fun b o x => Heap.get?_push_of_some _ (Heap.get?_push_of_some _ x)⟩
end
end Hx
namespace Hx
open PySem PySem.Spec PyProof.Rows L2
theorem enumL_eq : ∀ (ds : List D) (n : Nat), enumL n ds = ((((List.range ds.length).map fun i : Nat => D.int ((n + i : Nat) : Int)).zip ds).map fun p => D.tup [p.1, p.2])
  | [], n => rfl
  | d :: ds, n => by
    unfold enumL
    rw [List.length_cons, List.range_succ_eq_map, List.map_cons, List.zip_cons_cons, List.map_cons, enumL_eq ds (n + 1), List.map_map]
    simp only [Nat.add_zero]
    congr 2
    congr 1
    refine List.map_congr_left fun i _ => ?_
    simp only [Function.comp]
    congr 1
    omega
section
variable {X : Cx} {C : Str → Addr}
def rEnum (K : PySem.W.Frag) (w : World) (C : Str → Addr) : V → Hp → (It → Hp → Prop) → Prop := fun x H R => ∃ G d ds, GI H G ∧ Val K w C H G d 0 x ∧ seqD d = some ds ∧ ∀ J, WkD K w C H G (enumL 0 ds) J → R J H
theorem pi_enumV {e : Expr} {ta : TE} {p pos tpos : Pos} {elts : List Expr} {kk : Nat} (hg : Gl X "enumerate") (hm : X.mg "enumerate" = none) (ha : PE X e ta) (hs : starEach [e] X.env = [(false, eval e X.env)]) :
    PI X (.Tuple elts kk tpos) (.Call (.Name "enumerate" p) [e] [] pos) (fun σ H R => ta σ H fun x H1 => ∃ y, [x] = [y] ∧ rEnum X.K X.w C y H1 R) := by
  refine ⟨fun pins s σ H R I h => ?_⟩
  have hpa : PA X [e] (tCons ta tNil) := pa_cons ha pa_nil hs
  refine Call_ (ld_blt I hg hm boot_enumerate (PyProof.Rows.callWith_type1 (thn (hpa.run pos pins s σ H (fun vs H1 => ∃ x, vs = [x] ∧ rEnum X.K X.w C x H1 R) I h) fun us s1 ⟨vs, H1, I1, r1, q1⟩ => ?_) hs rfl))
  · obtain ⟨x, rfl, G, d, ds, g, hv, hd, q⟩ := q1
    cases r1 with
    | cons r rr =>
      cases rr
      have hlen : ((List.range ds.length).map fun i : Nat => D.int ((0 + i : Nat) : Int)).length = ds.length := by simp
      have h1 : ∀ i d, ((List.range ds.length).map fun i : Nat => D.int ((0 + i : Nat) : Int))[i]? = some d → ∀ v, some (V.int (i : Nat)) = some v → Val X.K X.w C H1 G d 0 v := fun i d hd v hv => by
        cases hv
        rw [List.getElem?_map] at hd
        obtain ⟨j, hj, rfl⟩ := Option.map_eq_some_iff.mp hd
        obtain ⟨_, rfl⟩ := List.getElem?_eq_some_iff.mp hj
        unfold Val
        simp
      cases d with
      | lst ys =>
        cases hd
        unfold Val at hv
        obtain ⟨a, vs, rfl, ha', nF, hZ, hv⟩ := hv
        cases r
        obtain ⟨its, rv, p', hz⟩ := I1.list (SqL.of ha')
        refine call_enumerate_list p'.isList fun h' he hit hsz hk => wpAny_pyIter_enum he ?_
        have I2 : Inv X pins σ H1 { s1 with heap := h' } := I1.kept (t' := s1.toks) hk
        refine ⟨s1.heap.objs.size + 1, [s1.heap.objs.size + 1, s1.heap.objs.size], _, _, H1, rfl, I2, turn_enum a (s1.heap.objs.size + 1) s1.heap.objs.size, ⟨⟨.none, he⟩, hit, Nat.succ_ne_self _⟩, fun b hb => ?_, q _ ?_⟩
        · have e' : b = s1.heap.objs.size + 1 ∨ b = s1.heap.objs.size := by simpa using hb
          have hle : s1.heap.objs.size ≤ b := by
            rcases e' with z | z
            · rw [z]; exact Nat.le_add_right _ _
            · rw [z]; exact Nat.le_refl _
          exact I1.fpOk hle (I1.hok.fresh hle)
        · rw [enumL_eq]
          refine wk_pair (P := fun H => SqL X.K H a vs) (vs := fun i => some (.int (i : Nat))) (us := fun i => vs[i]?) (n := vs.length) (by rw [hlen, Vals'.length hv]) hlen h1 (fun i d hd v hv' => ?_) (fun H' G' st => SqL.of (st.lst' ha' (hZ rfl))) walk_enum
          obtain ⟨u, hu1, hu2⟩ := Vals'.nth hv hd
          rw [hu1] at hv'; cases hv'
          exact hu2
      | tup ys =>
        cases hd
        unfold Val at hv
        obtain ⟨a, vs, rfl, ha', hv⟩ := hv
        cases r
        obtain ⟨its, rv, p', hz⟩ := I1.tuple (SqT.of ha')
        refine call_enumerate_tup p' fun h' he hit hsz hk => wpAny_pyIter_enum he ?_
        have I2 : Inv X pins σ H1 { s1 with heap := h' } := I1.kept (t' := s1.toks) hk
        have la : a < s1.heap.objs.size := p'.lt
        refine ⟨s1.heap.objs.size + 1, [s1.heap.objs.size + 1, s1.heap.objs.size], _, _, H1, rfl, I2, turn_enumT a (s1.heap.objs.size + 1) s1.heap.objs.size, ⟨⟨.none, he⟩, hit, Nat.succ_ne_self _, Nat.ne_of_lt la, Nat.ne_of_gt (Nat.lt_succ_of_lt la)⟩, fun b hb => ?_, q _ ?_⟩
        · have e' : b = s1.heap.objs.size + 1 ∨ b = s1.heap.objs.size := by simpa using hb
          have hle : s1.heap.objs.size ≤ b := by
            rcases e' with z | z
            · rw [z]; exact Nat.le_add_right _ _
            · rw [z]; exact Nat.le_refl _
          exact I1.fpOk hle (I1.hok.fresh hle)
        · rw [enumL_eq]
          refine wk_pair (P := fun H => SqT X.K H a vs) (vs := fun i => some (.int (i : Nat))) (us := fun i => vs[i]?) (n := vs.length) (by rw [hlen, Vals'.length hv]) hlen h1 (fun i d hd v hv' => ?_) (fun H' G' st => SqT.of (st.tup' ha')) walk_enumT
          obtain ⟨u, hu1, hu2⟩ := Vals'.nth hv hd
          rw [hu1] at hv'; cases hv'
          exact hu2
      | _ => cases hd
end
section
variable {M : Md} {σ : L2.St} {H : Hp} {Q : VK} {a b c : E} {k n : Nat} {R : It → Hp → Prop}
/-- what a for walks, read -/
def rdI (M : Md) (it : E) : TI := fun σ H R => ∃ s fps G, M.Ok σ H s fps G ∧ M.G σ H G fps (fun ds s1 H1 G1 fps1 => M.Ok σ H1 s1 fps1 G1 → ∀ J, WkD M.X.K M.X.w M.C H1 G1 ds J → R J H1) (evI M.sem it s)
theorem i_iit (h : rdI M (.iit a) σ H R) : rdE M a 0 σ H fun x H1 => rIter M.X.K M.X.w M.C x H1 R := by
  obtain ⟨s, fps, G, ok, q⟩ := h
  unfold evI at q
  refine ⟨s, fps, G, ok, RdG.less (Nat.zero_le _) ok ((RdG.bindB q).toE (n := 0) fun d1 s1 H1 G1 fps1 x o1 st1 g1 q1 => ?_)⟩
  obtain ⟨z, hz, q2⟩ := RdG.opt q1
  obtain ⟨fp, ow, _⟩ := g1.own
  exact ⟨G1, d1, z, o1.gi, (Own.of0 ow).1, hz, q2 H1 G1 fps1 o1 st1 o1⟩
theorem i_enu (h : rdI M (.ienu a) σ H R) : rdE M a 0 σ H fun x H1 => ∃ y, [x] = [y] ∧ rEnum M.X.K M.X.w M.C y H1 R := by
  obtain ⟨s, fps, G, ok, q⟩ := h
  unfold evI at q
  refine ⟨s, fps, G, ok, RdG.less (Nat.zero_le _) ok ((RdG.bindB q).toE (n := 0) fun d1 s1 H1 G1 fps1 x o1 st1 g1 q1 => ?_)⟩
  obtain ⟨z, hz, q2⟩ := RdG.opt q1
  obtain ⟨ds, hds, rfl⟩ := Option.map_eq_some_iff.mp hz
  obtain ⟨fp, ow, _⟩ := g1.own
  exact ⟨x, rfl, G1, d1, ds, o1.gi, (Own.of0 ow).1, hds, q2 H1 G1 fps1 o1 st1 o1⟩
theorem natAbs62 {i : Int} (h : i.natAbs < 2 ^ 62) : -(2 ^ 62) ≤ i ∧ i < 2 ^ 62 := by omega
theorem rangeL_out {lo hi st : Int} {ds : List D} (h : rangeL lo hi st = some ds) : (-(2 ^ 62) ≤ lo ∧ lo < 2 ^ 62 ∧ -(2 ^ 62) ≤ hi ∧ hi < 2 ^ 62) ∧
    ((st = 1 ∧ ds = (List.range (hi - lo).toNat).map fun (j : Nat) => .int (lo + (j : Int))) ∨ (st = -1 ∧ ds = (List.range (lo - hi).toNat).map fun (j : Nat) => .int (lo - (j : Int)))) := by
  unfold rangeL at h
  split at h
  · rename_i hb
    simp only [Bool.and_eq_true, decide_eq_true_eq] at hb
    have h1 := natAbs62 hb.1
    have h2 := natAbs62 hb.2
    refine ⟨⟨h1.1, h1.2, h2.1, h2.2⟩, ?_⟩
    split at h
    · rename_i e; cases h; exact .inl ⟨e, rfl⟩
    · split at h
      · rename_i e; cases h; exact .inr ⟨e, rfl⟩
      · cases h
  · cases h
theorem wk_up {K : PySem.W.Frag} {w : World} {C : Str → Addr} {H1 : Hp} {G1 : Gs} {lo : Int} {n : Nat} : WkD K w C H1 G1 ((List.range n).map fun (j : Nat) => D.int (lo + (j : Int))) (Itr lo n) := by
  have hl : ((List.range n).map fun (j : Nat) => D.int (lo + (j : Int))).length = n := by simp
  refine wk_fn (f := fun i => .int (lo + i)) (fun i d hd H G => ?_) (by rw [hl]; exact walk_range)
  rw [List.getElem?_map] at hd
  obtain ⟨j, hj, rfl⟩ := Option.map_eq_some_iff.mp hd
  obtain ⟨_, rfl⟩ := List.getElem?_eq_some_iff.mp hj
  unfold Val
  simp
theorem wk_step {K : PySem.W.Frag} {w : World} {C : Str → Addr} {H1 : Hp} {G1 : Gs} {lo c : Int} {n : Nat} {f : Nat → Int} (hf : ∀ j : Nat, f j = lo + (j : Int) * c) : WkD K w C H1 G1 ((List.range n).map fun (j : Nat) => D.int (f j)) (Itc lo c n) := by
  have hl : ((List.range n).map fun (j : Nat) => D.int (f j)).length = n := by simp
  refine wk_fn (f := fun i => .int (lo + (i : Nat) * c)) (fun i d hd H G => ?_) (by rw [hl]; exact walk_rangeC)
  rw [List.getElem?_map] at hd
  obtain ⟨j, hj, rfl⟩ := Option.map_eq_some_iff.mp hd
  obtain ⟨_, rfl⟩ := List.getElem?_eq_some_iff.mp hj
  unfold Val
  simp [hf]
theorem vals_int {K : PySem.W.Frag} {w : World} {C : Str → Addr} {H1 : Hp} {G1 : Gs} {n : Int} {ds : List D} {vs : List V} (h : Val.Vals' K w C H1 G1 (.int n :: ds) 0 vs) : ∃ r, vs = .int n :: r ∧ Val.Vals' K w C H1 G1 ds 0 r := by
  unfold Val.Vals' at h
  obtain ⟨v, r, rfl, h1, h2⟩ := h
  unfold Val at h1
  subst h1
  exact ⟨r, rfl, h2⟩
theorem vals_nil {K : PySem.W.Frag} {w : World} {C : Str → Addr} {H1 : Hp} {G1 : Gs} {vs : List V} (h : Val.Vals' K w C H1 G1 [] 0 vs) : vs = [] := by unfold Val.Vals' at h; exact h
theorem i_rng (h : rdI M (.irng a) σ H R) : rdA M a 0 σ H fun vs H1 =>
    (cnt a = 1 → ∃ j : Int, vs = [.int j] ∧ -(2 ^ 62) ≤ j ∧ j < 2 ^ 62 ∧ R (Itr 0 j.toNat) H1) ∧
    (cnt a = 2 → ∃ i j : Int, vs = [.int i, .int j] ∧ (-(2 ^ 62) ≤ i ∧ i < 2 ^ 62 ∧ -(2 ^ 62) ≤ j ∧ j < 2 ^ 62) ∧ R (Itr i (j - i).toNat) H1) ∧
    (cnt a = 3 → ∃ (i j c : Int) (n : Nat), vs = [.int i, .int j, .int c] ∧ RgC i j c n ∧ R (Itc i c n) H1) := by
  obtain ⟨s, fps, G, ok, q⟩ := h
  unfold evI at q
  refine ⟨s, fps, G, ok, (RdG.bindB q).imp fun ds s1 H1 G1 fps1 hr o1 st1 q1 vs fp ow f => ?_⟩
  obtain ⟨z, hz, q2⟩ := RdG.opt q1
  have q3 := q2 H1 G1 fps1 o1 st1 o1
  have hv := (Owns.of0 ow).1
  have hl := evA_len hr
  unfold rangeD at hz
  split at hz
  · rename_i n
    obtain ⟨⟨_, _, b1, b2⟩, ⟨_, rfl⟩ | ⟨e, _⟩⟩ := rangeL_out hz
    · refine ⟨fun _ => ?_, fun e => ?_, fun e => ?_⟩
      · obtain ⟨r1, rfl, hv1⟩ := vals_int hv
        cases vals_nil hv1
        have := q3 (Itr 0 n.toNat) (by have := wk_up (K := M.X.K) (w := M.X.w) (C := M.C) (H1 := H1) (G1 := G1) (lo := 0) (n := (n - 0).toNat); simpa using this)
        exact ⟨n, rfl, b1, b2, this⟩
      · simp at hl; omega
      · simp at hl; omega
    · cases e
  · rename_i i j
    obtain ⟨⟨b1, b2, b3, b4⟩, ⟨_, rfl⟩ | ⟨e, _⟩⟩ := rangeL_out hz
    · refine ⟨fun e => ?_, fun _ => ?_, fun e => ?_⟩
      · simp at hl; omega
      · obtain ⟨r1, rfl, hv1⟩ := vals_int hv
        obtain ⟨r2, rfl, hv2⟩ := vals_int hv1
        cases vals_nil hv2
        exact ⟨i, j, rfl, ⟨b1, b2, b3, b4⟩, q3 _ wk_up⟩
      · simp at hl; omega
    · cases e
  · rename_i i j c
    obtain ⟨⟨b1, b2, b3, b4⟩, hh⟩ := rangeL_out hz
    refine ⟨fun e => ?_, fun e => ?_, fun _ => ?_⟩
    · simp at hl; omega
    · simp at hl; omega
    · obtain ⟨r1, rfl, hv1⟩ := vals_int hv
      obtain ⟨r2, rfl, hv2⟩ := vals_int hv1
      obtain ⟨r3, rfl, hv3⟩ := vals_int hv2
      cases vals_nil hv3
      rcases hh with ⟨rfl, rfl⟩ | ⟨rfl, rfl⟩
      · exact ⟨i, j, 1, (j - i).toNat, rfl, ⟨by decide, by decide, small_one b1 b2 b3 b4, by rw [rangeSize_one]; split <;> omega⟩, q3 _ (wk_step fun j => by simp)⟩
      · exact ⟨i, j, -1, (i - j).toNat, rfl, RgC.neg b1 b2 b3 b4, q3 _ (wk_step fun j => by omega)⟩
  · cases hz
/-- behind a call -/
structure Ret (K : PySem.W.Frag) (w : World) (C : Str → Addr) (H : Hp) (G : Gs) (H' : Hp) (G' : Gs) (w' : Wd) : Prop where
  gi : GI H' G'
  wr : WR H' G' w'
  stp : Stp H G H' G'
  zb : ∀ a, G'.Z a → G.Z a ∨ H a = none
/-- what a def promises, by its run -/
def endF (K : PySem.W.Frag) (w : World) (C : Str → Addr) (n : Nat) (H : Hp) (G : Gs) (Q : VK) (E : XK) : RW → Prop
  | .ok d _ w' => ∀ v H' G' fp, Ret K w C H G H' G' w' → Own K w C H' G' d n v fp → fp.Nodup → (∀ a ∈ fp, H a = none ∧ ¬ G'.Z a ∧ ¬ G'.F a) → Q v H'
  | .exc c fs w' => ∀ H' G' dd, Ret K w C H G H' G' w' → XR K w C H' G' c fs dd → E (.ref (C c)) dd H'
  | .stuck => False
def spF (K : PySem.W.Frag) (w : World) (C : Str → Addr) (sem : Sem) (rd : Nat → Nat) (i ar : Nat) : L2.Sp := fun vs H Q E =>
  vs.length = ar ∧ ∃ ds w0 G, GI H G ∧ WR H G w0 ∧ Val.Vals' K w C H G ds 0 vs ∧ endF K w C (rd i) H G Q E (sem i ds w0)
theorem Ok.ret {K : PySem.W.Frag} {w : World} {C : Str → Addr} {H0 H1 H2 : Hp} {G0 G1 G2 : Gs} {σ : List (Option V)} {s : St} {fps : Nat → List Addr} {w' : Wd} (o : Ok K w C H0 G0 σ H1 s fps G1) (r : Ret K w C H1 G1 H2 G2 w') :
    Ok K w C H0 G0 σ H2 { s with w := w' } fps G2 ∧ Stv H1 G1 fps H2 G2 fps := by
  refine ⟨⟨r.gi, r.wr, ⟨o.er.len, fun i sl x h1 h2 => (o.er.at_ i sl x h1 h2).mono r.stp o.gi (o.nF i), o.er.out⟩, o.nd, o.dj, fun i a ha z => ?_, fun i a ha z => ?_, o.base.trans r.stp, fun a z => ?_, o.nb⟩, ⟨r.stp, fun a z => ?_, fun _ => .inl rfl⟩⟩
  · rcases r.zb a z with z | z
    · exact o.nz i a ha z
    · exact o.er.live ha z
  · rcases r.stp.fn a z with z | z
    · exact o.nF i a ha z
    · exact o.er.live ha z
  · rcases r.zb a z with z | z
    · exact o.zb a z
    · exact .inr (o.none0 a z)
  · rcases r.zb a z with z | z
    · exact .inl z
    · exact .inr (.inl z)
theorem x_call {f ar : Nat} (hc : cnt a = ar) (h : rdE M (.call f a) k σ H Q) : tCallS (spF M.X.K M.X.w M.C M.sem M.rd f ar) (WE M.W) (rdA M a 0) σ H Q := by
  obtain ⟨s, fps, G, ok, q⟩ := h
  unfold ev at q
  refine ⟨s, fps, G, ok, (RdG.bindE q).imp fun ds s1 H1 G1 fps1 hr o1 st1 q1 vs fp ow f1 => ?_⟩
  have hv := (Owns.of0 ow).1
  refine ⟨by rw [Owns.length ow, evA_len hr, hc], ds, s1.w, G1, o1.gi, o1.wr, hv, ?_⟩
  cases e : M.sem f ds s1.w with
  | ok d outs w' =>
    rw [e] at q1
    intro v H2 G2 fp r own nd hfp
    obtain ⟨o2, st2⟩ := o1.ret r
    refine o2.finO st2 (n := M.rd f) q1 (fun _ _ h => h) own ⟨nd, fun a ha => (hfp a ha).1, fun a ha => (hfp a ha).2.1, fun a ha => (hfp a ha).2.2, fun i a ha z => ?_⟩ o1.none0
    exact o1.er.live z (hfp a ha).1
  | exc c fs w' =>
    rw [e] at q1
    intro H2 G2 dd r xr
    obtain ⟨o2, st2⟩ := o1.ret r
    exact q1 H2 G2 fps1 dd o2 st2 xr
  | stuck =>
    rw [e] at q1
    exact q1
end
end Hx
namespace Hx
open PySem PySem.Spec PyProof.Rows L2
section
variable {K : PySem.W.Frag} {w : World} {C : Str → Addr} {H0 Hb H H' H1 H2 : Hp} {G0 Gb G G' G1 G2 : Gs} {fpsb fps fps' fps1 fps2 : Nat → List Addr} {σ : List (Option V)} {s s' s1 : St} {W : WX} {Q : VK}
/-- a thing that may be changed -/
def Chg : HO → Prop
  | .lst _ => True
  | .ext _ => True
  | _ => False
theorem poke_hk {P : Addr} {o o' : HO} (hD : H P = some o) (hc : Chg o) (nz : ¬ G.Z P) : ∀ a ob, H a = some ob → Lean' G False a ob → upd H P o' a = some ob := fun a ob e l => by
  have : a ≠ P := by
    rintro rfl
    rcases l with z | ⟨vs, rfl⟩ | ⟨_, _, rfl⟩ | ⟨z, _⟩
    · exact nz z
    · rw [hD] at e; cases e; exact hc
    · rw [hD] at e; cases e; exact hc
    · exact z
  rw [upd_ne this]; exact e
theorem Val.poke {P : Addr} {o o' : HO} (hD : H P = some o) (hc : Chg o) (nz : ¬ G.Z P) {d : D} {v : V} (h : Val K w C H G d 0 v) : Val K w C (upd H P o') G d 0 v :=
  Val.gen (up := False) (poke_hk hD hc nz) (fun _ z => z) (fun _ q => .inl q) (fun _ q => q) d 0 v (.inr rfl) h
theorem Own.poke {P : Addr} {o o' : HO} (hD : H P = some o) (hc : Chg o) (nz : ¬ G.Z P) {d : D} {n : Nat} {v : V} {fp : List Addr} (hn : P ∉ fp) (h : Own K w C H G d n v fp) : Own K w C (upd H P o') G d n v fp :=
  Own.gen (up := False) (poke_hk hD hc nz) (fun _ z => z) (fun _ q => .inl q) (fun _ q => q) d n v fp h fun a ha ob e => by rw [upd_ne (fun z : a = P => hn (z ▸ ha))]; exact e
theorem Owns.poke {P : Addr} {o o' : HO} (hD : H P = some o) (hc : Chg o) (nz : ¬ G.Z P) {d : List D} {n : Nat} {v : List V} {fp : List Addr} (hn : P ∉ fp) (h : Own.Owns K w C H G d n v fp) : Own.Owns K w C (upd H P o') G d n v fp :=
  Owns.gen (up := False) (poke_hk hD hc nz) (fun _ z => z) (fun _ q => .inl q) (fun _ q => q) d n v fp h fun a ha ob e => by rw [upd_ne (fun z : a = P => hn (z ▸ ha))]; exact e
/-- a temporary is changed -/
theorem Ok.poke (o : Ok K w C H0 G0 σ H s fps G) {P : Addr} {ob o' : HO} (hD : H P = some ob) (hc : Chg ob) (nz : ¬ G.Z P) (nF : ¬ G.F P) (nf : ∀ i, P ∉ fps i) (n0 : H0 P = none) : Ok K w C H0 G0 σ (upd H P o') s fps G := by
  have ne : ∀ {a}, a ≠ P → upd H P o' a = H a := fun h => upd_ne h
  have nT : ∀ {a x}, G.F a → H a = x → upd H P o' a = x := fun f e => by rw [ne (fun z => nF (z ▸ f))]; exact e
  refine ⟨⟨o.gi.zf, fun a z => ?_, fun a z => ?_⟩, ?_, ⟨o.er.len, fun i sl x h1 h2 => ?_, o.er.out⟩, o.nd, o.dj, o.nz, o.nF, ⟨fun a ob' e f => ?_, o.base.zz, o.base.fn, o.base.ff, o.base.tt⟩, o.zb, o.nb⟩
  · rw [ne (fun e => nz (e ▸ z))]; exact o.gi.zh a z
  · obtain ⟨xs, e⟩ := o.gi.fl a z
    exact ⟨xs, nT z e⟩
  · have wr := o.wr
    cases hw : s.w with
    | none => rw [hw] at wr; exact wr
    | some p =>
      rw [hw] at wr
      obtain ⟨n1, n2, n3, aT, aN, n4, n5, n6, n7, n8⟩ := wr
      exact ⟨n1, n2, n3, aT, aN, n4, nT ((n7 aT).mpr (.inl rfl)) n5, nT ((n7 aN).mpr (.inr rfl)) n6, n7, n8⟩
  · have q := o.er.at_ i sl x h1 h2
    cases sl with
    | un => exact q
    | fz d => obtain ⟨⟨v, e, hv⟩, z⟩ := q; exact ⟨⟨v, e, hv.poke hD hc nz⟩, z⟩
    | ow n d => obtain ⟨hn, v, e, hv⟩ := q; exact ⟨hn, v, e, hv.poke hD hc nz (nf i)⟩
  · have e2 := o.base.keep a ob' e f
    rw [ne (fun z => by rw [z, n0] at e; cases e)]
    exact e2
/-- a slot stored, never changed again -/
theorem Ok.store (o : Ok K w C H0 G0 σ H s fps G) {i : Nat} {d : D} {v : V} (hv : Val K w C H G d 0 v) :
    Ok K w C H0 G0 (σ.set i (some v)) H { s with env := s.env.set i (.fz d) } (setF fps i []) G ∧ Stv H G fps H G (setF fps i []) := by
  have sub : ∀ j, setF fps i [] j = fps j ∨ setF fps i [] j = [] := fun j => by
    by_cases hj : j = i
    · rw [hj, setF_self]; exact .inr rfl
    · rw [setF_ne hj]; exact .inl rfl
  have mem : ∀ j a, a ∈ setF fps i [] j → a ∈ fps j := fun j a ha => by
    rcases sub j with e | e
    · rw [← e]; exact ha
    · rw [e] at ha; cases ha
  refine ⟨⟨o.gi, o.wr, ⟨by simp only [List.length_set]; exact o.er.len, fun j sl x h1 h2 => ?_, fun j hj => ?_⟩, fun j => ?_, fun j l a hne ha hb => o.dj j l a hne (mem j a ha) (mem l a hb), fun j a ha => o.nz j a (mem j a ha), fun j a ha => o.nF j a (mem j a ha), o.base, o.zb, fun j a ha => o.nb j a (mem j a ha)⟩, .refl, fun a z => .inl z, sub⟩
  · by_cases hj : j = i
    · subst hj
      have h1' : (s.env.set j (.fz d))[j]? = some sl := h1
      have hi : j < s.env.length := by
        have := (List.getElem?_eq_some_iff.mp h1').1
        rw [List.length_set] at this; exact this
      rw [List.getElem?_set_self hi] at h1'
      cases h1'
      rw [List.getElem?_set_self (by rw [o.er.len]; exact hi)] at h2
      cases h2
      rw [setF_self]
      exact ⟨⟨v, rfl, hv⟩, rfl⟩
    · have h1' : (s.env.set i (.fz d))[j]? = some sl := h1
      rw [List.getElem?_set_ne (Ne.symm hj)] at h1' h2
      rw [setF_ne hj]
      exact o.er.at_ j sl x h1' h2
  · have hj' : s.env.length ≤ j := by
      have : (s.env.set i (.fz d)).length ≤ j := hj
      rw [List.length_set] at this; exact this
    by_cases hji : j = i
    · rw [hji, setF_self]
    · rw [setF_ne hji]; exact o.er.out j hj'
  · rcases sub j with e | e
    · rw [e]; exact o.nd j
    · rw [e]; exact List.nodup_nil
end
/-- a target's slots -/
def Tg.slots : Tg → List Nat
  | .v i => [i]
  | .cons t r => t.slots ++ r.slots
  | _ => []
/-- the same but at the slots vs -/
def Agr (vs : List Nat) (σ σ' : L2.St) : Prop := σ'.length = σ.length ∧ ∀ i, i ∉ vs → σ'[i]? = σ[i]?
theorem Agr.refl {vs : List Nat} {σ : L2.St} : Agr vs σ σ := ⟨rfl, fun _ _ => rfl⟩
theorem Agr.trans {vs : List Nat} {σ σ1 σ2 : L2.St} (a : Agr vs σ σ1) (b : Agr vs σ1 σ2) : Agr vs σ σ2 := ⟨b.1.trans a.1, fun i h => (b.2 i h).trans (a.2 i h)⟩
theorem Agr.sub {vs us : List Nat} {σ σ1 : L2.St} (a : Agr vs σ σ1) (h : ∀ i ∈ vs, i ∈ us) : Agr us σ σ1 := ⟨a.1, fun i hi => a.2 i fun q => hi (h i q)⟩
/-- a target's store, read -/
def rdG (M : Md) (t : Tg) : TG := fun v σ H Q => ∃ s fps G d env', M.Ok σ H s fps G ∧ Val M.X.K M.X.w M.C H G d 0 v ∧ stTg t d s.env = some env' ∧
  ∀ σ' fps', M.Ok σ' H { s with env := env' } fps' G → Stv H G fps H G fps' → Agr t.slots σ σ' → Q σ' H
def rdGs (M : Md) (t : Tg) : TGs := fun vs σ H Q => ∃ s fps G ds env', M.Ok σ H s fps G ∧ Val.Vals' M.X.K M.X.w M.C H G ds 0 vs ∧ stTg t (.tup ds) s.env = some env' ∧
  ∀ σ' fps', M.Ok σ' H { s with env := env' } fps' G → Stv H G fps H G fps' → Agr t.slots σ σ' → Q σ' H
section
variable {M : Md} {σ : L2.St} {H : Hp}
theorem g_v {i : Nat} {v : V} {Q : L2.St → Hp → Prop} (h : rdG M (.v i) v σ H Q) : gName i v σ H Q := by
  obtain ⟨s, fps, G, d, env', o, hv, hs, q⟩ := h
  cases hs
  obtain ⟨o1, st1⟩ := o.store (i := i) hv
  exact q _ _ o1 st1 ⟨List.length_set .., fun j hj => List.getElem?_set_ne (fun e => hj (by rw [e]; exact List.mem_singleton.mpr rfl))⟩
theorem gs_nil {vs : List V} {Q : L2.St → Hp → Prop} (h : rdGs M .nil vs σ H Q) : gNil vs σ H Q := by
  obtain ⟨s, fps, G, ds, env', o, hv, hs, q⟩ := h
  cases ds with
  | nil =>
    unfold Val.Vals' at hv
    cases hs
    exact ⟨hv, q σ fps o .refl .refl⟩
  | cons _ _ => simp [stTg] at hs
theorem gs_cons {t r : Tg} {vs : List V} {Q : L2.St → Hp → Prop} (h : rdGs M (.cons t r) vs σ H Q) : gCons (rdG M t) (rdGs M r) vs σ H Q := by
  obtain ⟨s, fps, G, ds, env', o, hv, hs, q⟩ := h
  cases ds with
  | nil => simp [stTg] at hs
  | cons d ds =>
    unfold Val.Vals' at hv
    obtain ⟨v, r', rfl, h1, h2⟩ := hv
    unfold stTg at hs
    obtain ⟨e1, he1, he2⟩ := Option.bind_eq_some_iff.mp hs
    refine ⟨v, r', rfl, s, fps, G, d, e1, o, h1, he1, fun σ' fps' o1 st1 a1 => ⟨_, fps', G, ds, env', o1, h2, he2, fun σ2 fps2 o2 st2 a2 => q σ2 fps2 o2 (st1.trans st2 o1.gi)
      ((a1.sub fun i hi => List.mem_append_left _ hi).trans (a2.sub fun i hi => List.mem_append_right _ hi))⟩⟩
/-- how many targets -/
def Tg.cnt : Tg → Nat
  | .cons _ r => r.cnt + 1
  | _ => 0
theorem stTg_len : ∀ {t : Tg} {ds : List D} {env env' : List Sl}, (∃ a b, t = .cons a b) ∨ t = .nil → stTg t (.tup ds) env = some env' → (∀ a b, t = .cons a b → (∃ c d, b = .cons c d) ∨ b = .nil ∨ b = .dr ∨ ∃ i, b = .v i) → True := fun _ _ _ => trivial
/-- a chain of targets that ends -/
def Tg.chain : Tg → Bool
  | .nil => true
  | .cons _ r => r.chain
  | _ => false
theorem chain_len : ∀ {t : Tg} {ds : List D} {env env' : List Sl}, t.chain = true → stTg t (.tup ds) env = some env' → ds.length = t.cnt
  | .nil, [], _, _, _, _ => rfl
  | .nil, _ :: _, _, _, _, h => by simp [stTg] at h
  | .cons _ _, [], _, _, _, h => by simp [stTg] at h
  | .cons t r, d :: ds, env, env', hc, h => by
    unfold stTg at h
    obtain ⟨e1, _, he2⟩ := Option.bind_eq_some_iff.mp h
    rw [List.length_cons, chain_len (t := r) hc he2]
    rfl
  | .v _, _, _, _, hc, _ => by simp [Tg.chain] at hc
  | .dr, _, _, _, hc, _ => by simp [Tg.chain] at hc
theorem g_tup {t : Tg} (hc : t.chain = true) (hn : t ≠ .nil) {v : V} {Q : L2.St → Hp → Prop} (h : rdG M t v σ H Q) : gTup M.X.K t.cnt (rdGs M t) v σ H Q := by
  obtain ⟨s, fps, G, d, env', o, hv, hs, q⟩ := h
  cases t with
  | nil => exact absurd rfl hn
  | v _ => simp [Tg.chain] at hc
  | dr => simp [Tg.chain] at hc
  | cons a r =>
    cases d with
    | tup ds =>
      have hl := chain_len hc hs
      unfold Val at hv
      obtain ⟨p, vs, rfl, hp, hvs⟩ := hv
      exact ⟨p, vs, rfl, SqT.of hp, by rw [Vals'.length hvs, hl], s, fps, G, ds, env', o, hvs, hs, q⟩
    | _ => simp [stTg] at hs
end
end Hx
namespace Hx
open PySem PySem.Spec PyProof.Rows L2
theorem compTurn_in (elt : Expr) (gens : List Comprehension) (scope : Scope) (pos : Pos) (i : Nat) (it acc : Value) (env : Env) (tg iter : Expr) (ifs : List Expr) (h : gens[i]? = some ⟨tg, iter, ifs, 0⟩) (h1 : gens[i + 1]? = none) :
    compTurn (.ListComp elt gens scope pos) i it acc env = (do
      standAt iter.pos
      match ← pyNext it with
      | none => pure (.done .next)
      | some v =>
        letOwnedTupleGo tg it v
        assign tg env v
        let mut ok := true
        for c in ifs do
          if ok then ok ← isTrue c env (eval c env)
        if ok then
          (do let _ ← call (.builtin "list.append") [acc, ← eval elt env])
        again (.compLoop (.ListComp elt gens scope pos) i it acc env)) := by
  unfold compTurn
  simp only [h, h1]
  rfl
theorem compTurn_out (elt : Expr) (gens : List Comprehension) (scope : Scope) (pos : Pos) (i : Nat) (it acc : Value) (env : Env) (tg iter tg1 iter1 : Expr) (ifs ifs1 : List Expr) (h : gens[i]? = some ⟨tg, iter, ifs, 0⟩) (h1 : gens[i + 1]? = some ⟨tg1, iter1, ifs1, 0⟩) :
    compTurn (.ListComp elt gens scope pos) i it acc env = (do
      standAt iter.pos
      match ← pyNext it with
      | none => pure (.done .next)
      | some v =>
        letOwnedTupleGo tg it v
        assign tg env v
        let mut ok := true
        for c in ifs do
          if ok then ok ← isTrue c env (eval c env)
        if ok then
          let x ← eval iter1 env
          standAt iter1.pos
          let x ← foldedSetIterable iter1 env x
          let _ ← runOwn (.compStart (.ListComp elt gens scope pos) (i + 1) (← holding [x] (pyIter x)) acc env) env
        again (.compLoop (.ListComp elt gens scope pos) i it acc env)) := by
  unfold compTurn
  simp only [h, h1]
  rfl
section
variable {prog : Program} {w : World} {A : Around} {R : Result → Shared → Prop} {s : Shared} {elt : Expr} {gens : List Comprehension} {scope : Scope} {pos : Pos} {it acc : Value} {env : Env} {tg iter : Expr} {ifs : List Expr} {i : Nat}
/-- a clause's loop: rest is what stands behind its tests -/
theorem loop_any (h : gens[i]? = some ⟨tg, iter, ifs, 0⟩) (hf : ∀ g, gens[i + 1]? = some g → g.is_async = 0 ∧ ∀ x, foldedSetIterable g.iter env x = pure x) (I : Nat → Shared → Prop)
    (turn : ∀ n s, I n s → wpAny (model prog w) A (pyNext it) (fun r s₁ => match r with
      | none => R (.ok .next) s₁
      | some v => wpAny (model prog w) A (letOwnedTupleGo tg it v) (fun _ s₁' => wpAny (model prog w) A (assign tg env v) (fun _ s₂ =>
          wpAny (model prog w) A (forIn ifs true fun c r => if r = true then do let ok ← isTrue c env (eval c env); pure (ForInStep.yield ok) else pure (ForInStep.yield r)) (fun ok s₃ =>
            if ok = true then (match gens[i + 1]? with
              | none => wpAny (model prog w) A (eval elt env) (fun x s₄ => wpAny (model prog w) A (call (.builtin "list.append") [acc, x]) (fun _ s₅ => ∃ m, m < n ∧ I m s₅) (fun _ _ => False) s₄) (fun _ _ => False) s₃
              | some g => wpAny (model prog w) A (eval g.iter env) (fun x s₄ => wpAny (model prog w) A (pyIter x) (fun it1 s₅ =>
                  codeAny (model prog w) A (.compStart (.ListComp elt gens scope pos) (i + 1) it1 acc env) (fun r s' => match r with
                    | .ok _ => ∃ m, m < n ∧ I m s'
                    | .error _ => False) s₅) (fun _ _ => False) s₄) (fun _ _ => False) s₃)
            else ∃ m, m < n ∧ I m s₃) (fun _ _ => False) s₂) (fun _ _ => False) s₁') (fun _ _ => False) s₁) (fun _ _ => False) s)
    (n : Nat) (hI : I n s) :
    codeAny (model prog w) A (.compLoop (.ListComp elt gens scope pos) i it acc env) R s := by
  refine codeAny_loop rfl I (fun n s hI => ?_) n hI
  show wpAny _ A ((compTurn (.ListComp elt gens scope pos) i it acc env).onRaise (fun x => do noteFrame x env; theTreesLotGoes x)) _ _ s
  refine wpAny_noted ?_
  cases h1 : gens[i + 1]? with
  | none =>
    rw [compTurn_in elt gens scope pos i it acc env tg iter ifs h h1]
    refine wpAny_bind (wpAny_standAt (wpAny_bind (thnF (turn n s hI) fun r s₁ h₁ => ?_)))
    cases r with
    | none => exact wpAny_pure h₁
    | some v =>
      refine wpAny_bind (thnF h₁ fun _ s₁' h₁' => ?_)
      refine wpAny_bind (thnF h₁' fun _ s₂ h₂ => wpAny_bind (thnF h₂ fun ok s₃ h₃ => ?_))
      cases ok with
      | false => exact wpAny_pure ⟨rfl, h₃⟩
      | true =>
        rw [h1] at h₃
        simp only [if_true] at h₃
        exact wpAny_bind (wpAny_bind (thnF h₃ fun x s₄ h₄ => wpAny_bind (thnF h₄ fun _ s₅ h₅ => wpAny_pure (wpAny_pure ⟨rfl, h₅⟩))))
  | some g =>
    obtain ⟨tg1, iter1, ifs1, as1⟩ := g
    obtain ⟨ha, hs⟩ := hf _ h1
    simp only at ha hs
    subst ha
    rw [compTurn_out elt gens scope pos i it acc env tg iter tg1 iter1 ifs ifs1 h h1]
    refine wpAny_bind (wpAny_standAt (wpAny_bind (thnF (turn n s hI) fun r s₁ h₁ => ?_)))
    cases r with
    | none => exact wpAny_pure h₁
    | some v =>
      refine wpAny_bind (thnF h₁ fun _ s₁' h₁' => ?_)
      refine wpAny_bind (thnF h₁' fun _ s₂ h₂ => wpAny_bind (thnF h₂ fun ok s₃ h₃ => ?_))
      cases ok with
      | false => exact wpAny_pure ⟨rfl, h₃⟩
      | true =>
        rw [h1] at h₃
        simp only [if_true] at h₃
        refine wpAny_bind (thnF h₃ fun x s₄ h₄ => ?_)
        refine wpAny_bind (wpAny_standAt (wpAny_bind (wpAny_of_eq (hs x) (wpAny_bind (wpAny_holding (thnF h₄ fun it1 s₅ h₅ => ?_))))))
        refine wpAny_bind (wpAny_runOwn ?_)
        rw [Around.mark_none]
        refine codeAny_mono h₅ fun r s' hr => ?_
        cases r with
        | ok f =>
          first
            | exact wpAny_pure ⟨rfl, hr⟩
            | exact wpAny_bind (wpAny_pure (wpAny_pure ⟨rfl, hr⟩))
        | error e => exact hr.elim
/-- a clause's start -/
theorem start_any (h : gens[i]? = some ⟨tg, iter, ifs, 0⟩) (h0 : codeAny (model prog w) A (.compLoop (.ListComp elt gens scope pos) i it acc env) R s)
    (hs : wpAny (model prog w) A (pyIter it) (fun it' s' => codeAny (model prog w) A (.compLoop (.ListComp elt gens scope pos) i it' acc env) R s')
      (notedBy (model prog w) A env fun x s' => R (.error x) s') s) :
    codeAny (model prog w) A (.compStart (.ListComp elt gens scope pos) i it acc env) R s := by
  refine codeAny_of_tree ?_
  show wpAny _ _ ((compStart (.ListComp elt gens scope pos) i it acc env).onRaise (fun x => do noteFrame x env; standAt theWindowsPlace)) _ _ s
  refine wpAny_notedAt ?_
  have e : compStart (.ListComp elt gens scope pos) i it acc env = (do
      if (← ask).params.followText "comprehension-iter-twice" then return ← again (.compLoop (.ListComp elt gens scope pos) i it acc env)
      rule "comprehension.iter-twice"
      standAt iter.pos
      again (.compLoop (.ListComp elt gens scope pos) i (← pyIter it) acc env)) := by
    unfold compStart
    have hcl : (clausesOf (.ListComp elt gens scope pos))[i]? = some ⟨tg, iter, ifs, 0⟩ := h
    simp only [hcl]
    rfl
  rw [e]
  refine wpAny_bind (wpAny_askSetting (wpAny_ite ?_))
  split
  · first
      | exact wpAny_bind (wpAny_pure (wpAny_pure (And.intro rfl h0)))
      | exact wpAny_pure (And.intro rfl h0)
  · first
      | exact wpAny_bind (wpAny_rule (wpAny_bind (wpAny_standAt (wpAny_bind (wpAny_mono hs (fun it' s' h' => wpAny_pure (And.intro rfl h')) fun _ _ x => x)))))
      | (refine wpAny_bind (wpAny_rule ?_); show wpAny _ _ (standAt iter.pos >>= _) _ _ s; exact wpAny_bind (wpAny_standAt (wpAny_bind (wpAny_mono hs (fun it' s' h' => wpAny_pure (And.intro rfl h')) fun _ _ x => x))))
end
end Hx
namespace Hx
open PySem PySem.Spec PyProof.Rows L2
/-- the new list at P, filled so far with acc -/
structure Acc (M : Md) (Hb : Hp) (Gb : Gs) (fpsb : Nat → List Addr) (P : Addr) (n : Nat) (σ : L2.St) (H : Hp) (st : St) (fps : Nat → List Addr) (G : Gs) (acc : List D) : Prop where
  ok : M.Ok σ H st fps G
  sv : Stv Hb Gb fpsb H G fps
  b0 : ∀ a, Hb a = none → M.H0 a = none
  len : acc.length ≤ line
  at_ : ∃ vs fpA, H P = some (.lst vs) ∧ Own.Owns M.X.K M.X.w M.C H G acc n vs fpA ∧ Fresh Hb G fps (P :: fpA)
section
variable {M : Md} {Hb H H1 : Hp} {Gb G G1 : Gs} {fpsb fps fps1 : Nat → List Addr} {P : Addr} {n : Nat} {σ σ1 : L2.St} {st st1 : St} {acc : List D}
theorem Acc.step (a : Acc M Hb Gb fpsb P n σ H st fps G acc) (o1 : M.Ok σ1 H1 st1 fps1 G1) (sv : Stv H G fps H1 G1 fps1) : Acc M Hb Gb fpsb P n σ1 H1 st1 fps1 G1 acc := by
  obtain ⟨vs, fpA, hP, ow, fr⟩ := a.at_
  have nF : ∀ x ∈ P :: fpA, ¬ G.F x := fr.nF
  have live : ∀ x ∈ P :: fpA, H x ≠ none := fun x hx => by
    rcases List.mem_cons.mp hx with e | hx
    · rw [e, hP]; simp
    · exact Owns.live ow x hx
  exact ⟨o1, a.sv.trans sv a.ok.gi, a.b0, a.len, vs, fpA, sv.stp.keep _ _ hP (nF P List.mem_cons_self), Owns.mono sv.stp a.ok.gi ow (fun x hx => nF x (List.mem_cons_of_mem _ hx)), fr.step live sv⟩
theorem Owns.snoc {K : PySem.W.Frag} {w : World} {C : Str → Addr} {H : Hp} {G : Gs} {n : Nat} {d : D} {v : V} {f2 : List Addr} (h2 : Own K w C H G d n v f2) : ∀ {ds : List D} {vs : List V} {f1 : List Addr}, Own.Owns K w C H G ds n vs f1 → Own.Owns K w C H G (ds ++ [d]) n (vs ++ [v]) (f1 ++ f2)
  | [], vs, f1, h => by
    unfold Own.Owns at h
    obtain ⟨rfl, rfl⟩ := h
    show Own.Owns K w C H G [d] n [v] ([] ++ f2)
    unfold Own.Owns
    exact ⟨v, [], f2, [], rfl, h2, by unfold Own.Owns; exact ⟨rfl, rfl⟩, by simp⟩
  | e :: ds, vs, f1, h => by
    unfold Own.Owns at h
    obtain ⟨u, r, g1, g2, rfl, a, b, rfl⟩ := h
    rw [List.cons_append, List.cons_append, List.append_assoc]
    unfold Own.Owns
    exact ⟨u, r ++ [v], g1, g2 ++ f2, rfl, a, Owns.snoc h2 b, rfl⟩
theorem Acc.push (a : Acc M Hb Gb fpsb P n σ H st fps G acc) (o1 : M.Ok σ1 H1 st1 fps1 G1) (sv : Stv H G fps H1 G1 fps1) {d : D} {v : V} {fp : List Addr} (own : Own M.X.K M.X.w M.C H1 G1 d n v fp) (f : Fresh H G1 fps1 fp) (hl : acc.length < line) :
    ∃ vs, H1 P = some (.lst vs) ∧ vs.length = acc.length ∧ Acc M Hb Gb fpsb P n σ1 (upd H1 P (.lst (vs ++ [v]))) st1 fps1 G1 (acc ++ [d]) := by
  obtain ⟨vs, fpA, hP0, ow0, fr0⟩ := a.at_
  have hPP : H P ≠ none := by rw [hP0]; simp
  have hPf : P ∉ fp := fun z => hPP (f.new P z)
  have hPA : P ∉ fpA := (List.nodup_cons.mp fr0.nd).1
  have live0 : ∀ x ∈ P :: fpA, H x ≠ none := fun x hx => by
    rcases List.mem_cons.mp hx with e | hx
    · rw [e]; exact hPP
    · exact Owns.live ow0 x hx
  have hP := sv.stp.keep _ _ hP0 (fr0.nF P List.mem_cons_self)
  have ow := Owns.mono sv.stp a.ok.gi ow0 (fun x hx => fr0.nF x (List.mem_cons_of_mem _ hx))
  have fr := fr0.step live0 sv
  have nz := fr.nz P List.mem_cons_self
  have nF := fr.nF P List.mem_cons_self
  have nf : ∀ i, P ∉ fps1 i := fun i => fr.dj i P List.mem_cons_self
  have hbP := fr.new P List.mem_cons_self
  have sv1 := a.sv.trans sv a.ok.gi
  have hc : Chg (.lst vs) := trivial
  refine ⟨vs, hP, Owns.length ow, o1.poke hP hc nz nF nf (a.b0 P hbP), ⟨⟨fun x ob e z => ?_, sv1.stp.zz, sv1.stp.fn, sv1.stp.ff, sv1.stp.tt⟩, sv1.zn, sv1.sub⟩, a.b0, ?_, vs ++ [v], fpA ++ fp, upd_same, ?_, ?_⟩
  · have e2 := sv1.stp.keep x ob e z
    rw [upd_ne (fun z : x = P => by rw [z, hbP] at e; cases e)]
    exact e2
  · rw [List.length_append, List.length_singleton]; omega
  · exact Owns.snoc (own.poke hP hc nz hPf) (Owns.poke hP hc nz hPA ow)
  · have := fr0.app live0 f a.sv a.ok.gi sv
    exact this
end
theorem compR_cons (f : D → List D → St → Res (List D)) (d : D) (ds acc : List D) (s : St) : compR f (d :: ds) acc s = (f d acc s).bind fun acc1 s1 => compR f ds acc1 s1 := rfl
/-- one item of a clause -/
def stepG (sem : Sem) (t : Tg) (c r : E) : D → List D → St → Res (List D) := fun d acc s => (opt (stTg t d s.env) s).bind fun env s =>
  (ev sem c 99 { s with env := env }).bind fun b s => (match b with
    | .bl b => if b then evG sem r acc s else .ok acc s
    | _ => .stuck)
/-- the clauses from i on are the term r; its items new to depth n -/
def GenOk (M : Md) (elt : Expr) (gens : List Comprehension) (n : Nat) (us : List Nat) : Nat → E → Prop
  | i, .gelt a => gens[i]? = none ∧ n ≤ dep M.rd a ∧ PE M.X elt (rdE M a 0)
  | i, .gfor t it c r => ∃ tg iter ifs, gens[i]? = some ⟨tg, iter, ifs, 0⟩ ∧ (∀ env x, foldedSetIterable iter env x = pure x) ∧ PI M.X tg iter (rdI M it) ∧ PG M.X tg (rdG M t) ∧ PTs M.X ifs (rdT M c) ∧ (∀ j ∈ t.slots, j ∈ us) ∧ GenOk M elt gens n us (i + 1) r
  | _, _ => False
/-- what is wanted behind the clauses -/
def FinG (M : Md) (Hb : Hp) (Gb : Gs) (fpsb : Nat → List Addr) (P : Addr) (n : Nat) (us : List Nat) (σs : L2.St) (Hs : Hp) (Gs' : Gs) (N : L2.St → Hp → Prop) : Res (List D) → Prop
  | .ok acc' st' => ∀ σ' H' fps' G', Acc M Hb Gb fpsb P n σ' H' st' fps' G' acc' → Sty Hs Gs' H' G' → Agr us σs σ' → N σ' H'
  | _ => False
theorem FinG.bind {M : Md} {Hb : Hp} {Gb : Gs} {fpsb : Nat → List Addr} {P : Addr} {n : Nat} {us : List Nat} {σs : L2.St} {Hs : Hp} {Gs' : Gs} {N : L2.St → Hp → Prop} {α : Type} {r : Res α} {f : α → St → Res (List D)} (h : FinG M Hb Gb fpsb P n us σs Hs Gs' N (r.bind f)) : ∃ a s, r = .ok a s ∧ FinG M Hb Gb fpsb P n us σs Hs Gs' N (f a s) := by
  cases r with
  | ok a s => exact ⟨a, s, rfl, h⟩
  | exc _ _ _ => exact False.elim h
  | stuck => exact False.elim h
section
variable {M : Md} {Hb : Hp} {Gb : Gs} {fpsb : Nat → List Addr} {P : Addr} {n : Nat} {us : List Nat} {elt : Expr} {gens : List Comprehension} {scope : Scope} {pos : Pos}
/-- the code behind the clause ahead of i -/
def RestWp (M : Md) (elt : Expr) (gens : List Comprehension) (scope : Scope) (pos : Pos) (P : Addr) (i : Nat) (pins : List (Addr × Obj)) (N : L2.St → Hp → Prop) (s : Shared) : Prop :=
  match gens[i]? with
  | none => wpAny (model M.X.prog M.X.w) M.X.A (eval elt M.X.env) (fun x s₄ => wpAny (model M.X.prog M.X.w) M.X.A (call (.builtin "list.append") [.ref P, x]) (fun _ s₅ => ∃ σ' H', Inv M.X pins σ' H' s₅ ∧ N σ' H') (fun _ _ => False) s₄) (fun _ _ => False) s
  | some g => wpAny (model M.X.prog M.X.w) M.X.A (eval g.iter M.X.env) (fun x s₄ => wpAny (model M.X.prog M.X.w) M.X.A (pyIter x) (fun it1 s₅ =>
      codeAny (model M.X.prog M.X.w) M.X.A (.compStart (.ListComp elt gens scope pos) i it1 (.ref P) M.X.env) (fun r s' => match r with
        | .ok _ => ∃ σ' H', Inv M.X pins σ' H' s' ∧ N σ' H'
        | .error _ => False) s₅) (fun _ _ => False) s₄) (fun _ _ => False) s
/-- a clause's loop, its iterator standing -/
theorem clause_loop (hx : M.X.xe = fun _ _ => False) (hc : M.X.calm = true) {i : Nat} {tg iter : Expr} {ifs : List Expr} {t : Tg} {c r : E} (h : gens[i]? = some ⟨tg, iter, ifs, 0⟩) (hfold : ∀ g, gens[i + 1]? = some g → g.is_async = 0 ∧ ∀ x, foldedSetIterable g.iter M.X.env x = pure x)
    (pg : PG M.X tg (rdG M t)) (hts : ∀ j ∈ t.slots, j ∈ us) (pt : PTs M.X ifs (rdT M c))
    (ih : ∀ (pins : List (Addr × Obj)) (s : Shared) (σ : L2.St) (st : St) (fps : Nat → List Addr) (G : Gs) (H : Hp) (acc : List D) (N : L2.St → Hp → Prop), Inv M.X pins σ H s → Acc M Hb Gb fpsb P n σ H st fps G acc → FinG M Hb Gb fpsb P n us σ H G N (evG M.sem r acc st) → RestWp M elt gens scope pos P (i + 1) pins N s)
    {pins : List (Addr × Obj)} {J : It} {fp : List Addr} {it : Addr} {tn : Nat → Heap → Prop} (T : Turn M.X.prog M.X.w M.X.K tg J fp it tn) {H1 : Hp} {G1 : Gs} {ds : List D} (W : WkD M.X.K M.X.w M.C H1 G1 ds J)
    (hfp : ∀ {σ' : L2.St} {H' : Hp} {s' : Shared}, Inv M.X pins σ' H' s' → (∀ b ∈ fp, H' b = none) → ∀ b ∈ fp, FpOk M.X pins H' b) {R : Result → Shared → Prop} {N : L2.St → Hp → Prop}
    (hR : ∀ σ' H' s', Inv M.X pins σ' H' s' → N σ' H' → (∀ b ∈ fp, H' b = none) → R (.ok .next) s')
    {s : Shared} {σ : L2.St} {st : St} {fps : Nat → List Addr} {G : Gs} {H : Hp} {acc : List D} (I : Inv M.X pins σ H s) (tn0 : tn 0 s.heap) (n0 : ∀ b ∈ fp, H b = none) (a : Acc M Hb Gb fpsb P n σ H st fps G acc) (sp : Sty H1 G1 H G) {Hs : Hp} {Gs' : Gs} (sq : Sty Hs Gs' H G) {σs : L2.St} (ag : Agr us σs σ)
    (fin : FinG M Hb Gb fpsb P n us σs Hs Gs' N (compR (stepG M.sem t c r) ds acc st)) : codeAny (model M.X.prog M.X.w) M.X.A (.compLoop (.ListComp elt gens scope pos) i (.ref it) (.ref P) M.X.env) R s := by
  refine loop_any h hfold (fun m s' => ∃ j σ st fps G H acc, m = ds.length - j ∧ j ≤ ds.length ∧ Inv M.X pins σ H s' ∧ tn j s'.heap ∧ (∀ b ∈ fp, H b = none) ∧ Acc M Hb Gb fpsb P n σ H st fps G acc ∧ Sty H1 G1 H G ∧ Sty Hs Gs' H G ∧ Agr us σs σ ∧ FinG M Hb Gb fpsb P n us σs Hs Gs' N (compR (stepG M.sem t c r) (ds.drop j) acc st))
    ?_ ds.length ⟨0, σ, st, fps, G, H, acc, by simp, Nat.zero_le _, I, tn0, n0, a, sp, sq, ag, fin⟩
  rintro m s5 ⟨j, σ5, st5, fps5, G5, H5, acc5, rfl, hj, I5, t5, n5, a5, sp5, sq5, ag5, fin5⟩
  obtain ⟨w1, w2, w3⟩ := W H5 G5 sp5
  by_cases hlt : j < ds.length
  · -- an item
    have hd : ds[j]? = some ds[j] := List.getElem?_eq_getElem hlt
    rw [List.drop_eq_getElem_cons hlt, compR_cons] at fin5
    refine thnF (T.item M.X rfl rfl rfl hc j pins s5 σ5 H5 (fun _ _ => False) I5 (hfp I5 n5) t5 (w1 j hlt)) fun rr s6 ⟨u, hr, h6⟩ => ?_
    subst hr
    refine thnF h6 fun _ s7 ⟨x, H7, I7, r7, y7, t7, n7⟩ => ?_
    obtain ⟨gr, hv⟩ := w3 j x H7 _ hd y7
    have I7' := I7.pinned (hfp I7 n7) (T.obj _ _ t7)
    obtain ⟨o7, sv7⟩ := a5.ok.grow (H' := H7) (fp := []) gr (fun _ h => nomatch h) (fun _ h => nomatch h)
    have hv7 : Val M.X.K M.X.w M.C H7 (G5.cool []) ds[j] 0 x := hv.cool
    obtain ⟨acc8, st8, e8, fin8⟩ := fin5.bind
    unfold stepG at e8
    cases ee : stTg t ds[j] st5.env with
    | none => rw [ee] at e8; cases e8
    | some env' =>
      rw [ee] at e8
      simp only [opt, Res.bind] at e8
      have pgr := pg.run (pins ++ pinsAt fp s7.heap) s7 σ5 H7 x u (fun σ8 H8 => ∃ fps8, H8 = H7 ∧ M.Ok σ8 H7 { st5 with env := env' } fps8 (G5.cool []) ∧ Stv H7 (G5.cool []) fps5 H7 (G5.cool []) fps8 ∧ Agr us σ5 σ8) I7' r7
        ⟨st5, fps5, _, ds[j], env', o7, hv7, ee, fun σ' fps' o' sv' ag' => ⟨fps', rfl, o', sv', ag'.sub hts⟩⟩
      rw [hx] at pgr
      refine thnF pgr fun _ s8 ⟨σ8, H8, I8, fps8, eH8, o8, sv8, ag8⟩ => ?_
      subst eH8
      cases ec : ev M.sem c 99 { st5 with env := env' } with
      | stuck => rw [ec] at e8; cases e8
      | exc _ _ _ => rw [ec] at e8; cases e8
      | ok b st9 =>
        rw [ec] at e8
        simp only [Res.bind] at e8
        cases b with
        | bl b0 =>
          have ptr := pt.run (pins ++ pinsAt fp s7.heap) s8 σ8 H8 (fun b H9 => b = b0 ∧ ∃ fps9 G9, M.Ok σ8 H9 st9 fps9 G9 ∧ Stv H8 (G5.cool []) fps8 H9 G9 fps9) I8
            ⟨{ st5 with env := env' }, fps8, _, o8, by rw [ec]; exact fun H9 G9 fps9 o9 sv9 => ⟨b0, rfl, rfl, fps9, G9, o9, sv9⟩⟩
          rw [hx] at ptr
          refine thnF ptr fun bb s9 ⟨H9, I9, eb, fps9, G9, o9, sv9⟩ => ?_
          subst eb
          have sv59 := (sv7.trans sv8 o7.gi).trans sv9 o8.gi
          have a9 := a5.step o9 sv59
          have sty59 := sv59.stp.sty a5.ok.gi o9.gi
          -- the turn's end
          have again : ∀ {s' : Shared} {σ' : L2.St} {H' : Hp}, Inv M.X (pins ++ pinsAt fp s7.heap) σ' H' s' → (∃ fps' G', Acc M Hb Gb fpsb P n σ' H' st8 fps' G' acc8 ∧ Sty H5 G5 H' G' ∧ Agr us σ5 σ') →
              ∃ m, m < ds.length - j ∧ ∃ j' σ st fps G H acc, m = ds.length - j' ∧ j' ≤ ds.length ∧ Inv M.X pins σ H s' ∧ tn j' s'.heap ∧ (∀ b ∈ fp, H b = none) ∧ Acc M Hb Gb fpsb P n σ H st fps G acc ∧ Sty H1 G1 H G ∧ Sty Hs Gs' H G ∧ Agr us σs σ ∧ FinG M Hb Gb fpsb P n us σs Hs Gs' N (compR (stepG M.sem t c r) (ds.drop j') acc st) := fun {s' σ' H'} I' ⟨fps', G', aa, spp, agg⟩ => by
            have pin' : ∀ b ∈ fp, ∀ o, s7.heap.get? b = some o → s'.heap.get? b = some o ∧ H' b = none := fun b hb o e =>
              let z := I'.pin (b, o) (List.mem_append_right _ (List.mem_append_right _ (mem_pinsAt hb e)))
              ⟨z.1, z.2.1⟩
            refine ⟨ds.length - (j + 1), by omega, j + 1, σ', st8, fps', G', H', acc8, rfl, hlt, I'.unpinned, T.keep _ _ _ t7 fun b hb o e => (pin' b hb o e).1, fun b hb => ?_, aa, sp5.trans spp, sq5.trans spp, ag5.trans agg, fin8⟩
            obtain ⟨o, e, _⟩ := T.obj _ _ t7 b hb
            exact (pin' b hb o e).2
          cases bb with
          | false =>
            simp only [Bool.false_eq_true, if_false] at e8 ⊢
            cases e8
            exact again I9 ⟨fps9, G9, a9, sty59, ag8⟩
          | true =>
            simp only [if_true] at e8 ⊢
            have rest := ih (pins ++ pinsAt fp s7.heap) s9 σ8 st9 fps9 G9 H9 acc5 (fun σ' H' => ∃ fps' G', Acc M Hb Gb fpsb P n σ' H' st8 fps' G' acc8 ∧ Sty H5 G5 H' G' ∧ Agr us σ5 σ') I9 a9 (by
              rw [e8]
              exact fun σ' H' fps' G' aa ss ag => ⟨fps', G', aa, sty59.trans ss, ag8.trans ag⟩)
            unfold RestWp at rest
            cases hg : gens[i + 1]? with
            | none =>
              rw [hg] at rest
              exact thnF rest fun x4 s4 h4 => thnF h4 fun _ s5' ⟨σ', H', I', q⟩ => again I' q
            | some g =>
              rw [hg] at rest
              refine thnF rest fun x4 s4 h4 => thnF h4 fun it1 s5' h5' => codeAny_mono h5' fun r' s' hr' => ?_
              cases r' with
              | ok f =>
                obtain ⟨σ', H', I', q⟩ := hr'
                exact again I' q
              | error e => exact hr'.elim
        | _ => cases e8
  · have ej : j = ds.length := by omega
    subst ej
    refine thnF (T.done M.X rfl rfl rfl hc _ pins s5 σ5 H5 (fun _ _ => False) I5 (hfp I5 n5) t5 w2) fun rr s6 ⟨hr, I6⟩ => ?_
    subst hr
    rw [List.drop_length] at fin5
    exact hR σ5 H5 s6 I6 (fin5 σ5 H5 fps5 G5 a5 sq5 ag5) n5
/-- the clauses from i on -/
theorem clauses (hx : M.X.xe = fun _ _ => False) (hc : M.X.calm = true) (hasync : ∀ g ∈ gens, g.is_async = 0) : ∀ (r : E) (i : Nat), GenOk M elt gens n us i r → ∀ (pins : List (Addr × Obj)) (s : Shared) (σ : L2.St) (st : St) (fps : Nat → List Addr) (G : Gs) (H : Hp) (acc : List D) (N : L2.St → Hp → Prop),
    Inv M.X pins σ H s → Acc M Hb Gb fpsb P n σ H st fps G acc → FinG M Hb Gb fpsb P n us σ H G N (evG M.sem r acc st) → RestWp M elt gens scope pos P i pins N s := by
  intro r
  induction r with
  | gelt a _ =>
    intro i hg pins s σ st fps G H acc N I ac fin
    obtain ⟨hg, hn, pe⟩ := hg
    unfold RestWp
    rw [hg]
    unfold evG at fin
    obtain ⟨d, s1, e1, fin1⟩ := fin.bind
    split at fin1
    · rename_i hl
      have per := pe.run pins s σ H (fun v H1 => ∃ fps1 G1 fp, M.Ok σ H1 s1 fps1 G1 ∧ Stv H G fps H1 G1 fps1 ∧ Own M.X.K M.X.w M.C H1 G1 d n v fp ∧ Fresh H G1 fps1 fp) I
        ⟨st, fps, G, ac.ok, RdG.less hn ac.ok (by
          rw [e1]
          intro H1 G1 fps1 o1 sv1 v g
          obtain ⟨fp, ow, f⟩ := g.own
          exact ⟨fps1, G1, fp, o1, sv1, ow, f⟩)⟩
      rw [hx] at per
      refine thnF per fun u s2 ⟨v, H1, I1, rv, fps1, G1, fp, o1, sv1, ow, f⟩ => ?_
      obtain ⟨vs, hP, hlen, a2⟩ := ac.push o1 sv1 ow f hl
      have hzl : vs.length < sizeLine := by rw [hlen]; exact hl
      refine app_ok I1 hP hzl rv fun s3 I3 => ⟨σ, _, I3, fin1 σ _ fps1 G1 a2 ?_ .refl⟩
      have nzP : ¬ G1.Z P := by
        obtain ⟨vs', fp', _, _, fr⟩ := a2.at_
        exact fr.nz P List.mem_cons_self
      refine (sv1.stp.sty ac.ok.gi o1.gi).trans ⟨poke_hk hP trivial nzP, fun _ z => z, fun _ q => .inl q, fun _ q => q, fun b hb => ?_⟩
      by_cases hbP : b = P
      · subst hbP; rw [upd_same] at hb; cases hb
      · rw [upd_ne hbP] at hb; exact hb
    · exact False.elim fin1
  | gfor t it c r _ _ ihr =>
    intro i hg pins s σ st fps G H acc N I ac fin
    obtain ⟨tg, iter, ifs, hg, hf, pi, pg, pt, hts, hr⟩ := hg
    unfold RestWp
    rw [hg]
    unfold evG at fin
    obtain ⟨ds, s1, e1, fin1⟩ := fin.bind
    have fin1 : FinG M Hb Gb fpsb P n us σ H G N (compR (stepG M.sem t c r) ds acc s1) := fin1
    have pir := pi.run pins s σ H (fun J H1 => ∃ fps1 G1, M.Ok σ H1 s1 fps1 G1 ∧ Stv H G fps H1 G1 fps1 ∧ WkD M.X.K M.X.w M.C H1 G1 ds J) I
      ⟨st, fps, G, ac.ok, by rw [e1]; exact fun H1 G1 fps1 o1 sv1 _ J hJ => ⟨fps1, G1, o1, sv1, hJ⟩⟩
    rw [hx] at pir
    refine thnF pir fun x s4 h4 => thnF h4 fun itv s5 h5 => ?_
    obtain ⟨ita, fp, tn, J, H1, rfl, I1, T, t0, f1, fps1, G1, o1, sv1, W⟩ := h5
    have a1 := ac.step o1 sv1
    have hfp : ∀ {σ' : L2.St} {H' : Hp} {s' : Shared}, Inv M.X pins σ' H' s' → (∀ b ∈ fp, H' b = none) → ∀ b ∈ fp, FpOk M.X pins H' b := fun _ hn b hb => ⟨hn b hb, (f1 b hb).2⟩
    have hfold : ∀ g, gens[i + 1]? = some g → g.is_async = 0 ∧ ∀ x, foldedSetIterable g.iter M.X.env x = pure x := fun g hg' => by
      refine ⟨hasync g (List.mem_of_getElem? hg'), fun x => ?_⟩
      cases r with
      | gelt a => have := hr.1; rw [this] at hg'; cases hg'
      | gfor t2 it2 c2 r2 =>
        obtain ⟨tg2, iter2, ifs2, hg2, hf2, _⟩ := hr
        rw [hg2] at hg'; cases hg'
        exact hf2 _ x
      | _ => exact False.elim hr
    have loop := clause_loop (pos := pos) (scope := scope) hx hc hg hfold pg hts pt (fun pins s σ st fps G H acc N => ihr (i + 1) hr pins s σ st fps G H acc N) T W hfp (R := fun r s' => match r with
        | .ok _ => ∃ σ' H', Inv M.X pins σ' H' s' ∧ N σ' H'
        | .error _ => False) (N := N) (fun σ' H' s' I' q _ => ⟨σ', H', I', q⟩) I1 t0 (fun b hb => (f1 b hb).1) a1 Sty.refl (sv1.stp.sty ac.ok.gi o1.gi) .refl fin1
    exact start_any hg loop (T.self M.X.A 0 _ _ _ t0 loop)
  | _ => intro i hg; exact False.elim hg
end
end Hx
namespace Hx
open PySem PySem.Spec PyProof.Rows L2
theorem unsl_len : ∀ (vs : List Nat) (env : List Sl), (unsl vs env).length = env.length := by
  intro vs
  induction vs with
  | nil => intro env; rfl
  | cons v vs ih => intro env; show (unsl vs (env.set v .un)).length = _; rw [ih, List.length_set]
theorem unsl_in : ∀ (vs : List Nat) (env : List Sl) (i : Nat), i ∈ vs → i < env.length → (unsl vs env)[i]? = some .un := by
  have keep : ∀ (vs : List Nat) (env : List Sl) (i : Nat), env[i]? = some .un → (unsl vs env)[i]? = some .un := by
    intro vs
    induction vs with
    | nil => intro env i h; exact h
    | cons v vs ih =>
      intro env i h
      show (unsl vs (env.set v .un))[i]? = _
      apply ih
      by_cases e : v = i
      · subst e
        rw [List.getElem?_set_self (List.getElem?_eq_some_iff.mp h).1]
      · rw [List.getElem?_set_ne e]; exact h
  intro vs
  induction vs with
  | nil => intro env i h; cases h
  | cons v vs ih =>
    intro env i h hl
    show (unsl vs (env.set v .un))[i]? = _
    rcases List.mem_cons.mp h with e | h
    · subst e
      exact keep _ _ _ (by rw [List.getElem?_set_self hl])
    · exact ih _ _ h (by rw [List.length_set]; exact hl)
theorem unsl_out : ∀ (vs : List Nat) (env : List Sl) (i : Nat), i ∉ vs → (unsl vs env)[i]? = env[i]? := by
  intro vs
  induction vs with
  | nil => intro env i _; rfl
  | cons v vs ih =>
    intro env i h
    show (unsl vs (env.set v .un))[i]? = _
    rw [ih _ _ fun z => h (List.mem_cons_of_mem _ z), List.getElem?_set_ne fun e => h (by rw [e]; exact List.mem_cons_self)]
def backF (old : List Sl) (e : List Sl) (i : Nat) : List Sl := match old[i]? with
  | some x => e.set i x
  | none => e
theorem backF_len (old e : List Sl) (i : Nat) : (backF old e i).length = e.length := by unfold backF; split <;> simp
theorem backsl_len : ∀ (vs : List Nat) (old new : List Sl), (backsl vs old new).length = new.length := by
  intro vs old
  induction vs with
  | nil => intro new; rfl
  | cons v vs ih => intro new; show (backsl vs old (backF old new v)).length = _; rw [ih, backF_len]
theorem backsl_in : ∀ (vs : List Nat) (old new : List Sl) (i : Nat), i ∈ vs → i < new.length → old.length = new.length → (backsl vs old new)[i]? = old[i]? := by
  have keep : ∀ (vs : List Nat) (old new : List Sl) (i : Nat), new[i]? = old[i]? → (backsl vs old new)[i]? = old[i]? := by
    intro vs old
    induction vs with
    | nil => intro new i h; exact h
    | cons v vs ih =>
      intro new i h
      show (backsl vs old (backF old new v))[i]? = _
      apply ih
      unfold backF
      split
      · rename_i x hx
        by_cases e : v = i
        · subst e
          by_cases hl : v < new.length
          · rw [List.getElem?_set_self hl, hx]
          · rw [List.getElem?_eq_none (by simpa using hl), ← h, List.getElem?_eq_none (by omega)]
        · rw [List.getElem?_set_ne e]; exact h
      · exact h
  intro vs old
  induction vs with
  | nil => intro new i h; cases h
  | cons v vs ih =>
    intro new i h hl ho
    show (backsl vs old (backF old new v))[i]? = _
    rcases List.mem_cons.mp h with e | h
    · subst e
      refine keep _ _ _ _ ?_
      unfold backF
      rw [List.getElem?_eq_getElem (by omega : i < old.length)]
      simp only
      rw [List.getElem?_set_self hl]
    · exact ih _ _ h (by rw [backF_len]; exact hl) (by rw [backF_len]; exact ho)
theorem backsl_out : ∀ (vs : List Nat) (old new : List Sl) (i : Nat), i ∉ vs → (backsl vs old new)[i]? = new[i]? := by
  intro vs old
  induction vs with
  | nil => intro new i _; rfl
  | cons v vs ih =>
    intro new i h
    show (backsl vs old (backF old new v))[i]? = _
    rw [ih _ _ fun z => h (List.mem_cons_of_mem _ z)]
    unfold backF
    split
    · rw [List.getElem?_set_ne fun e => h (by rw [e]; exact List.mem_cons_self)]
    · rfl
section
variable {K : PySem.W.Frag} {w : World} {C : Str → Addr} {H0 Hb H H' H1 H2 : Hp} {G0 Gb G G' G1 G2 : Gs} {fpsb fps fps' fps1 fps2 : Nat → List Addr} {σ : List (Option V)} {s s' s1 : St} {W : WX} {Q : VK}
def maskF (vs : List Nat) (f : Nat → List Addr) : Nat → List Addr := fun i => if i ∈ vs then [] else f i
theorem maskF_sub {vs : List Nat} {f : Nat → List Addr} (i : Nat) : maskF vs f i = f i ∨ maskF vs f i = [] := by unfold maskF; split <;> simp
theorem maskF_mem {vs : List Nat} {f : Nat → List Addr} {i : Nat} {a : Addr} (h : a ∈ maskF vs f i) : a ∈ f i ∧ i ∉ vs := by
  unfold maskF at h
  split at h
  · cases h
  · exact ⟨h, by assumption⟩
/-- slots are hidden -/
theorem Ok.hide (o : Ok K w C H0 G0 σ H s fps G) (vs : List Nat) : Ok K w C H0 G0 σ H { s with env := unsl vs s.env } (maskF vs fps) G ∧ Stv H G fps H G (maskF vs fps) := by
  have m : ∀ i a, a ∈ maskF vs fps i → a ∈ fps i := fun i a h => (maskF_mem h).1
  refine ⟨⟨o.gi, o.wr, ⟨by rw [unsl_len]; exact o.er.len, fun i sl x h1 h2 => ?_, fun i hi => ?_⟩, fun i => ?_, fun i j a hne ha hb => o.dj i j a hne (m i a ha) (m j a hb), fun i a ha => o.nz i a (m i a ha), fun i a ha => o.nF i a (m i a ha), o.base, o.zb, fun i a ha => o.nb i a (m i a ha)⟩, .refl, fun _ z => .inl z, maskF_sub⟩
  · have h1 : (unsl vs s.env)[i]? = some sl := h1
    by_cases hv : i ∈ vs
    · have hl : i < s.env.length := by have := (List.getElem?_eq_some_iff.mp h1).1; rw [unsl_len] at this; exact this
      rw [unsl_in vs _ i hv hl] at h1
      cases h1
      show maskF vs fps i = []
      unfold maskF; rw [if_pos hv]
    · rw [unsl_out vs _ i hv] at h1
      have e : maskF vs fps i = fps i := by unfold maskF; rw [if_neg hv]
      rw [e]
      exact o.er.at_ i sl x h1 h2
  · have hi : (unsl vs s.env).length ≤ i := hi
    rw [unsl_len] at hi
    rcases maskF_sub (vs := vs) (f := fps) i with e | e
    · rw [e]; exact o.er.out i hi
    · exact e
  · rcases maskF_sub (vs := vs) (f := fps) i with e | e
    · rw [e]; exact o.nd i
    · rw [e]; exact List.nodup_nil
/-- hidden slots are forgotten -/
theorem Ok.wipe (o : Ok K w C H0 G0 σ H s fps G) {vs : List Nat} (h : ∀ i ∈ vs, i < s.env.length → s.env[i]? = some .un) : Ok K w C H0 G0 (L2.wipe σ vs) H s fps G := by
  refine ⟨o.gi, o.wr, ⟨by rw [L2.wipe_length]; exact o.er.len, fun i sl x h1 h2 => ?_, o.er.out⟩, o.nd, o.dj, o.nz, o.nF, o.base, o.zb, o.nb⟩
  by_cases hv : i ∈ vs
  · have hi := (List.getElem?_eq_some_iff.mp h1).1
    have hσ : i < σ.length := by rw [o.er.len]; exact hi
    have e := h i hv hi
    rw [h1] at e; cases e
    have z : fps i = [] := o.er.at_ i .un _ h1 (List.getElem?_eq_getElem hσ)
    exact z
  · rw [L2.wipe_out hv] at h2
    exact o.er.at_ i sl x h1 h2
/-- and seen again -/
theorem Ok.back (o : Ok K w C H0 G0 σ H s fps G) {vs : List Nat} {σ' : List (Option V)} (o1 : Ok K w C H0 G0 σ' H1 s1 fps1 G1) (sv : Stv H G (maskF vs fps) H1 G1 fps1) (ag : Agr vs σ σ') (hv : ∀ i ∈ vs, fps1 i = []) :
    Ok K w C H0 G0 σ H1 { s1 with env := backsl vs s.env s1.env } (fun i => if i ∈ vs then fps i else fps1 i) G1 ∧ Stv H G fps H1 G1 (fun i => if i ∈ vs then fps i else fps1 i) := by
  have hlen : s.env.length = s1.env.length := by rw [← o.er.len, ← o1.er.len, ag.1]
  have nz : ∀ i ∈ vs, ∀ a ∈ fps i, ¬ G1.Z a := fun i hi a ha z => by
    rcases sv.zn a z with z | z | ⟨j, z⟩
    · exact o.nz i a ha z
    · exact o.er.live ha z
    · obtain ⟨z1, z2⟩ := maskF_mem z
      exact o.dj j i a (fun e => z2 (e ▸ hi)) z1 ha
  have nF : ∀ i, ∀ a ∈ fps i, ¬ G1.F a := fun i a ha z => by
    rcases sv.stp.fn a z with z | z
    · exact o.nF i a ha z
    · exact o.er.live ha z
  have sub1 : ∀ j, j ∉ vs → ∀ a ∈ fps1 j, a ∈ fps j := fun j hj a ha => by
    rcases sv.sub j with e | e
    · rw [e] at ha; exact (maskF_mem ha).1
    · rw [e] at ha; cases ha
  have apart : ∀ i j, i ∈ vs → j ∉ vs → ∀ a ∈ fps i, a ∉ fps1 j := fun i j hi hj a ha hb => o.dj i j a (fun e => hj (e ▸ hi)) ha (sub1 j hj a hb)
  refine ⟨⟨o1.gi, o1.wr, ⟨by rw [backsl_len, ← o1.er.len, ag.1], fun i sl x h1 h2 => ?_, fun i hi => ?_⟩, fun i => ?_, fun i j a hne ha hb => ?_, fun i a ha => ?_, fun i a ha => ?_, o1.base, o1.zb, fun i a ha => ?_⟩, sv.stp, fun a z => ?_, fun i => ?_⟩
  · have h1 : (backsl vs s.env s1.env)[i]? = some sl := h1
    have hi : i < s1.env.length := by have := (List.getElem?_eq_some_iff.mp h1).1; rw [backsl_len] at this; exact this
    by_cases hiv : i ∈ vs
    · rw [backsl_in vs _ _ i hiv hi hlen] at h1
      simp only [if_pos hiv]
      exact (o.er.at_ i sl x h1 h2).mono sv.stp o.gi (o.nF i)
    · rw [backsl_out vs _ _ i hiv] at h1
      simp only [if_neg hiv]
      exact o1.er.at_ i sl x h1 (by rw [ag.2 i hiv]; exact h2)
  · have hi : (backsl vs s.env s1.env).length ≤ i := hi
    rw [backsl_len] at hi
    by_cases hiv : i ∈ vs
    · simp only [if_pos hiv]; exact o.er.out i (by omega)
    · simp only [if_neg hiv]; exact o1.er.out i hi
  · by_cases hiv : i ∈ vs
    · simp only [if_pos hiv]; exact o.nd i
    · simp only [if_neg hiv]; exact o1.nd i
  · by_cases hiv : i ∈ vs
    · simp only [if_pos hiv] at ha
      by_cases hjv : j ∈ vs
      · simp only [if_pos hjv] at hb; exact o.dj i j a hne ha hb
      · simp only [if_neg hjv] at hb; exact apart i j hiv hjv a ha hb
    · simp only [if_neg hiv] at ha
      by_cases hjv : j ∈ vs
      · simp only [if_pos hjv] at hb; exact apart j i hjv hiv a hb ha
      · simp only [if_neg hjv] at hb; exact o1.dj i j a hne ha hb
  · by_cases hiv : i ∈ vs
    · simp only [if_pos hiv] at ha; exact nz i hiv a ha
    · simp only [if_neg hiv] at ha; exact o1.nz i a ha
  · by_cases hiv : i ∈ vs
    · simp only [if_pos hiv] at ha; exact nF i a ha
    · simp only [if_neg hiv] at ha; exact o1.nF i a ha
  · by_cases hiv : i ∈ vs
    · simp only [if_pos hiv] at ha; exact o.nb i a ha
    · simp only [if_neg hiv] at ha; exact o1.nb i a ha
  · rcases sv.zn a z with z | z | ⟨j, z⟩
    · exact .inl z
    · exact .inr (.inl z)
    · exact .inr (.inr ⟨j, (maskF_mem z).1⟩)
  · by_cases hiv : i ∈ vs
    · left; simp only [if_pos hiv]
    · simp only [if_neg hiv]
      rcases sv.sub i with e | e
      · left; rw [e]; unfold maskF; rw [if_neg hiv]
      · exact .inr e
end
/-- M in a comprehension's block -/
abbrev Md.blk (M : Md) (s : Shared) (H : Hp) (scope : Scope) (cenv : Env) (fp : List Addr) : Md := { M with X := M.X.blk s H scope cenv fp, W := fun _ _ _ _ => False }
section
variable {M : Md}
theorem comp_core {pins : List (Addr × Obj)} {s : Shared} {σ : L2.St} {H : Hp} {Q : VK} {k : Nat} {elt tg iter : Expr} {ifs : List Expr} {rest : List Comprehension} {scope : Scope} {own : List (Str × Nat)} {pos pos' : Pos} {t : Tg} {it c r : E} {use : Option (Value → PySem.Sem Unit)} {Qf : Value → Shared → Prop}
    (hc : M.X.calm = true) (hN : M.X.N.Nodup) (I : Inv M.X pins σ H s) (hi : PI M.X tg iter (rdI M it)) (ok : BlkOk M.X.N M.X.env.scope scope own) (hs : ∀ env x, foldedSetIterable iter env x = pure x)
    (hasync : ∀ g ∈ rest, g.is_async = 0) (hfold : ∀ g, rest[0]? = some g → ∀ env x, foldedSetIterable g.iter env x = pure x) (hts : ∀ j ∈ t.slots, j ∈ own.map (·.2))
    (hB : ∀ (s : Shared) (H : Hp) (A0 : Addr) (cl : List (Str × Addr)) (fp : List Addr), PG (M.blk s H scope (compEnvC scope cl A0 M.X.env) fp).X tg (rdG (M.blk s H scope (compEnvC scope cl A0 M.X.env) fp) t) ∧
      PTs (M.blk s H scope (compEnvC scope cl A0 M.X.env) fp).X ifs (rdT (M.blk s H scope (compEnvC scope cl A0 M.X.env) fp) c) ∧
      GenOk (M.blk s H scope (compEnvC scope cl A0 M.X.env) fp) elt (⟨tg, iter, ifs, 0⟩ :: rest) (dep M.rd r) (own.map (·.2)) 1 r)
    (h : rdE M (.comp (own.map (·.2)) (.gfor t it c r)) k σ H Q)
    (hRR : ∀ D C s' m H', Inv M.X pins σ H' s' → Q (.ref D) H' → s'.heap.Ns C m → FpOk M.X pins H' C → compPost (model M.X.prog M.X.w) M.X.A M.X.xe use Qf (.ref D) C (.ok .next) s') :
    wpAny (model M.X.prog M.X.w) M.X.A (comprehension (.ListComp elt (⟨tg, iter, ifs, 0⟩ :: rest) scope pos) scope M.X.env pos' (newList []) false (eval iter M.X.env) use) Qf M.X.xe s := by
  obtain ⟨st, fps, G, o, q⟩ := h
  generalize hvs : own.map (·.2) = vs at *
  unfold ev at q
  have hfree : ∀ y ∈ scope.names, y.2 = .free → ∃ c, M.X.env.cells.lookup y.1 = some c := fun y hy e => by
    rcases ok.free y hy e with k | k
    · exact I.ok.has _ (.inl k)
    · exact I.ok.has _ (.inr k)
  obtain ⟨oh, svh⟩ := o.hide vs
  -- the first source
  have pir := hi.run pins s σ H (fun J H1 => ∃ ds st1 fps1 G1, evI M.sem it { st with env := unsl vs st.env } = .ok ds st1 ∧ M.Ok σ H1 st1 fps1 G1 ∧ Stv H G (maskF vs fps) H1 G1 fps1 ∧ WkD M.X.K M.X.w M.C H1 G1 ds J) I
    ⟨{ st with env := unsl vs st.env }, maskF vs fps, G, oh, by
      cases e : evI M.sem it { st with env := unsl vs st.env } with
      | ok ds st1 => exact fun H1 G1 fps1 o1 sv1 _ J hJ => ⟨ds, st1, fps1, G1, rfl, o1, sv1, hJ⟩
      | exc c' fs' s' =>
        rw [e] at q
        intro H' G' fps' dd o' sv' xr
        obtain ⟨o2, sv2⟩ : ∃ fps2, M.Ok σ H' s' fps2 G' ∧ Stv H G fps H' G' fps2 := ⟨fps', o', (svh.trans sv' oh.gi)⟩
        exact q H' G' _ dd sv2.1 sv2.2 xr
      | stuck => rw [e] at q; exact q⟩
  refine wpAny_comprehension_free (use := use) rfl (hs _) (closure_ok hfree) ok.kind (fun y hy e => by rw [ok.uniq y hy, e])
    (thn pir fun xv s1 hx => thn hx fun itv s2 h2 => ?_)
  obtain ⟨ita, fp, tn, J, Hq, e, I2, T, st2, f2, ds, sx, fps1, G1, ee, o1, sv1, WK⟩ := h2
  subst e
  rw [ee] at q
  simp only [Res.bind] at q
  generalize hcr : compR (stepG M.sem t c r) ds [] { sx with env := unsl vs sx.env } = cr
  have q : RdE M.X.K M.X.w M.C M.H0 M.G0 σ M.W k (dep M.rd (.comp vs (.gfor t it c r))) H G fps Q ((noExc cr).bind fun ds s1 => .ok (.lst ds) { s1 with env := backsl vs st.env s1.env }) := by rw [← hcr]; exact q
  cases cr with
  | exc _ _ _ => exact False.elim q
  | stuck => exact False.elim q
  | ok ds1 s1 =>
  refine wpAny_newObj_type (newEnv_comp ?_) (by show 0 ≤ sizeLine; decide)
  generalize hD : s2.heap.objs.size = P
  have hDn : Hq P = none := I2.hok.fresh (Nat.le_of_eq hD)
  -- the new list
  generalize hs3 : ({ s2 with heap := s2.heap.push { cls := .type "list", data := .seq ([] : List Value).toArray } } : Shared) = s3
  have I3 : Inv M.X pins σ (upd Hq P (.lst [])) s3 := by
    rw [← hs3]
    refine I2.laid (t' := s2.toks) (fun b o e => Heap.get?_push_of_some _ e) (Nat.le_of_eq hD) ⟨Nat.zero_le _, [], 0, .nil, ?_⟩
    rw [← hD]
    exact Heap.get?_push_size _ rfl
  have h3 : s3.heap = s2.heap.push { cls := .type "list", data := .seq ([] : List Value).toArray } := by rw [← hs3]
  have sz : ∀ b ∈ fp, b < s2.heap.objs.size := fun b hb => by
    obtain ⟨o, e, _⟩ := T.obj _ _ st2 b hb
    exact Heap.lt_size e
  have f3 : ∀ b ∈ fp, FpOk M.X pins (upd Hq P (.lst [])) b ∧ b < s3.heap.objs.size := fun b hb => by
    have hlt := sz b hb
    refine ⟨⟨?_, (f2 b hb).2⟩, by rw [h3, Heap.size_push]; exact Nat.lt_succ_of_lt hlt⟩
    rw [upd_ne (by rw [← hD]; exact Nat.ne_of_lt hlt)]
    exact (f2 b hb).1
  have st3 : tn 0 s3.heap := T.keep _ _ _ st2 fun b _ o e => by rw [h3]; exact Heap.get?_push_of_some _ e
  have I4 := block_start I3 ok hN f3
  rw [hvs] at I4
  obtain ⟨pg, pt, gok⟩ := hB s3 (upd Hq P (.lst [])) s3.heap.objs.size (cellsFrom (s3.heap.objs.size + 1) scope.names (cloFrom M.X.env.cells scope.names [])) fp
  show codeAny _ _ (.compStart (.ListComp elt (⟨tg, iter, ifs, 0⟩ :: rest) scope pos) 0 (.ref ita) (.ref P) (compEnvC scope (cellsFrom (s3.heap.objs.size + 1) scope.names (cloFrom M.X.env.cells scope.names [])) s3.heap.objs.size M.X.env)) (compPost (model M.X.prog M.X.w) M.X.A M.X.xe use Qf (.ref P) s3.heap.objs.size) { s3 with heap := pushCells (s3.heap.push { cls := .type "dict", data := .dict #[] }) scope.names }
  have nfp : ∀ b ∈ fp, (upd Hq P (.lst [])) b = none := fun b hb => (f3 b hb).1.1
  -- the start
  obtain ⟨oh1, svh1⟩ := o1.hide vs
  have ow1 := oh1.wipe (vs := vs) (fun i hi hl => by
    have hl : i < (unsl vs sx.env).length := hl
    rw [unsl_len] at hl
    exact unsl_in vs _ i hi hl)
  obtain ⟨og, svg⟩ := ow1.grow (H' := upd Hq P (.lst [])) (fp := []) (grow_upd hDn) (fun _ h => nomatch h) (fun _ h => nomatch h)
  have svT : Stv H G (maskF vs fps) (upd Hq P (.lst [])) (G1.cool []) (maskF vs fps1) := (sv1.trans svh1 o1.gi).trans svg oh1.gi
  have hHP : H P = none := sv1.stp.none' o1.gi hDn
  have frP : Fresh H (G1.cool []) (maskF vs fps1) [P] := by
    refine ⟨by simp, fun a ha => ?_, fun a ha z => ?_, fun a ha z => ?_, fun i a ha z => ?_⟩
    · rw [List.mem_singleton.mp ha]; exact hHP
    · rw [List.mem_singleton.mp ha] at z
      rcases z with z | z
      · exact o1.gi.zh _ z hDn
      · cases z
    · rw [List.mem_singleton.mp ha] at z
      obtain ⟨_, z⟩ := o1.gi.fl _ z
      rw [hDn] at z; cases z
    · rw [List.mem_singleton.mp ha] at z
      exact o1.er.live (maskF_mem z).1 hDn
  generalize hce : compEnvC scope (cellsFrom (s3.heap.objs.size + 1) scope.names (cloFrom M.X.env.cells scope.names [])) s3.heap.objs.size M.X.env = ce at I4 pg pt gok ⊢
  have cL : ce.locals = s3.heap.objs.size := by subst hce; rfl
  have a0 : Acc (M.blk s3 (upd Hq P (.lst [])) scope ce fp) H G (maskF vs fps) P (dep M.rd r) (L2.wipe σ vs) (upd Hq P (.lst [])) { sx with env := unsl vs sx.env } (maskF vs fps1) (G1.cool []) [] :=
    ⟨og, svT, o.none0, Nat.zero_le _, [], [], upd_same, by unfold Own.Owns; exact ⟨rfl, rfl⟩, frP⟩
  generalize hH3 : upd Hq P (.lst []) = H3 at I3 I4 pg pt gok nfp f3 a0 svT
  have sty0 : Sty Hq G1 H3 (G1.cool []) := by
    rw [← hH3]
    exact svg.stp.sty o1.gi og.gi
  generalize hs4 : ({ s3 with heap := pushCells (s3.heap.push { cls := .type "dict", data := .dict #[] }) scope.names } : Shared) = s4 at I4 ⊢
  have st4 : tn 0 s4.heap := T.keep _ _ _ st3 fun b _ o e => by rw [← hs4]; exact pushCells_keeps _ _ _ _ (Heap.get?_push_of_some _ e)
  have stat : ∀ {σ' : L2.St} {H' : Hp} {s' : Shared}, Inv (M.X.blk s3 H3 scope ce fp) [] σ' H' s' → (∀ b ∈ fp, H' b = none) → ∀ b ∈ fp, FpOk (M.X.blk s3 H3 scope ce fp) [] H' b := fun {σ' H' s'} I' hn b hb =>
    ⟨hn b hb, (I'.ok.exf b hb).1, I'.ok.exfs b hb, .inl hb, fun x c e => (I'.ok.exf b hb).2 x c e, fun p hp => absurd (show p ∈ ([] : List (Addr × Obj)) ++ [] from hp) (by simp)⟩
  have hasync' : ∀ g ∈ (⟨tg, iter, ifs, 0⟩ :: rest : List Comprehension), g.is_async = 0 := fun g hg => by
    rcases List.mem_cons.mp hg with e | hg
    · rw [e]
    · exact hasync g hg
  have loop : codeAny (model M.X.prog M.X.w) M.X.A (.compLoop (.ListComp elt (⟨tg, iter, ifs, 0⟩ :: rest) scope pos) 0 (.ref ita) (.ref P) ce) (compPost (model M.X.prog M.X.w) M.X.A M.X.xe use Qf (.ref P) s3.heap.objs.size) s4 := by
    refine clause_loop (M := M.blk s3 H3 scope ce fp) (elt := elt) (gens := ⟨tg, iter, ifs, 0⟩ :: rest) (i := 0) (us := vs) (t := t) (c := c) (r := r) (Hb := H) (Gb := G) (fpsb := maskF vs fps) (P := P) (n := dep M.rd r) rfl hc rfl (fun g hg => ⟨hasync g (List.mem_of_getElem? (show rest[0]? = some g from hg)), hfold g hg _⟩) pg hts pt
      (fun pins s σ st fps G H acc N => clauses (M := M.blk s3 H3 scope ce fp) rfl hc hasync' r 1 gok pins s σ st fps G H acc N) T (H1 := Hq) (G1 := G1) (ds := ds) WK stat
      (N := fun σ' H' => ∃ fps' G', Acc (M.blk s3 H3 scope ce fp) H G (maskF vs fps) P (dep M.rd r) σ' H' s1 fps' G' ds1 ∧ Agr vs (L2.wipe σ vs) σ') ?_ I4 st4 nfp a0 sty0 (Hs := H3) (Gs' := G1.cool []) .refl .refl ?_
    · rintro σ' H' s6 I6 ⟨fps', G', aa, ag⟩ hfree'
      have I7 : Inv M.X pins σ H' s6 := I3.call' (ch := fp) I6.os I6.base I6.hok I6.bare fun b hb => ⟨(f3 b hb).1.2.2.2.1, (f3 b hb).1.2.1, (f3 b hb).1.2.2.2.2.1, (f3 b hb).1.2.2.2.2.2⟩
      have nC : H' s3.heap.objs.size = none := by
        have z : H' ce.locals = none := I6.free
        rw [cL] at z
        exact z
      obtain ⟨m, hn, _⟩ := I6.loc
      have hn : s6.heap.Ns ce.locals m := hn
      rw [cL] at hn
      refine hRR P s3.heap.objs.size s6 m H' I7 ?_ hn (I3.fpOk (Nat.le_refl _) nC)
      obtain ⟨vsA, fpA, hP, ow, fr⟩ := aa.at_
      have ag' : Agr vs σ σ' := Agr.trans ⟨L2.wipe_length _ _, fun i hi => L2.wipe_out hi⟩ ag
      have hv0 : ∀ i ∈ vs, fps' i = [] := fun i hi => by
        rcases aa.sv.sub i with e | e
        · rw [e]; unfold maskF; rw [if_pos hi]
        · exact e
      obtain ⟨ob, svb⟩ := o.back aa.ok aa.sv ag' hv0
      refine ob.finO svb q (fun _ _ h => h) (fp := P :: fpA) ?_ ⟨fr.nd, fr.new, fr.nz, fr.nF, fun i a ha z => ?_⟩ o.none0
      · have e : dep M.rd (.comp vs (.gfor t it c r)) = dep M.rd r + 1 := by simp only [dep]; omega
        rw [e]
        unfold Own
        exact ⟨P, vsA, fpA, rfl, hP, ow, rfl⟩
      · by_cases hi : i ∈ vs
        · simp only [if_pos hi] at z
          exact o.er.live z (fr.new a ha)
        · simp only [if_neg hi] at z
          exact fr.dj i a ha z
    · show FinG _ _ _ _ _ _ _ _ _ _ _ (compR (stepG M.sem t c r) ds [] { sx with env := unsl vs sx.env })
      rw [hcr]
      exact fun σ' H' fps' G' aa _ ag => ⟨fps', G', aa, ag⟩
  exact codeAny_compStart_list loop (T.self M.X.A 0 _ _ _ st4 loop)
end
end Hx
namespace Hx
open PySem PySem.Spec PyProof.Rows L2
inductive Nav (H : Hp) : V → List D → V → Prop where
  | nil (v : V) : Nav H v [] v
  | lst {a : Addr} {vs : List V} {i : Int} {v1 v' : V} {ds : List D} : H a = some (.lst vs) → atI vs i = some v1 → Nav H v1 ds v' → Nav H (.ref a) (.int i :: ds) v'
section
variable {K : PySem.W.Frag} {w : World} {C : Str → Addr} {H H' : Hp} {G G' : Gs}
/-- a list's item, what is owned of it, and what of the others; another put there -/
theorem Owns.nth : ∀ {xs : List D} {n : Nat} {vs : List V} {fp : List Addr} {j : Nat} {x : D}, Own.Owns K w C H G xs n vs fp → xs[j]? = some x →
    ∃ v f1 f2, vs[j]? = some v ∧ Own K w C H G x n v f1 ∧ fp.Perm (f1 ++ f2) ∧ ∀ (H' : Hp) (G' : Gs) (y : D) (u : V) (f1' : List Addr), (∀ a ∈ f2, ∀ o, H a = some o → H' a = some o) → Sty H G H' G' → Own K w C H' G' y n u f1' →
      ∃ fp', Own.Owns K w C H' G' (xs.set j y) n (vs.set j u) fp' ∧ fp'.Perm (f1' ++ f2)
  | [], _, _, _, _, _, _, e => by simp at e
  | d :: ds, n, _, _, 0, x, h, e => by
    simp at e; subst e
    unfold Own.Owns at h
    obtain ⟨v, r, f1, f2, rfl, h1, h2, rfl⟩ := h
    refine ⟨v, f1, f2, rfl, h1, .refl _, fun H' G' y u f1' hk st hy => ⟨f1' ++ f2, ?_, .refl _⟩⟩
    rw [List.set_cons_zero, List.set_cons_zero]
    unfold Own.Owns
    exact ⟨u, r, f1', f2, rfl, hy, Owns.gen (up := False) st.keep st.zz st.fn st.tt _ _ _ _ h2 hk, rfl⟩
  | d :: ds, n, _, _, j + 1, x, h, e => by
    unfold Own.Owns at h
    obtain ⟨v, r, f1, f2, rfl, h1, h2, rfl⟩ := h
    obtain ⟨w', g1, g2, e1, e2, e3, e4⟩ := Owns.nth h2 (by simpa using e)
    refine ⟨w', g1, f1 ++ g2, by simpa using e1, e2, ?_, fun H' G' y u f1' hk st hy => ?_⟩
    · refine ((List.Perm.refl f1).append e3).trans ?_
      rw [← List.append_assoc, ← List.append_assoc]
      exact List.Perm.append_right _ List.perm_append_comm
    · obtain ⟨fp', a1, a2⟩ := e4 H' G' y u f1' (fun a ha => hk a (List.mem_append_right _ ha)) st hy
      refine ⟨f1 ++ fp', ?_, ((List.Perm.refl f1).append a2).trans ?_⟩
      · rw [List.set_cons_succ, List.set_cons_succ]
        unfold Own.Owns
        exact ⟨v, _, f1, fp', rfl, Own.gen (up := False) st.keep st.zz st.fn st.tt _ _ _ _ h1 (fun a ha => hk a (List.mem_append_left _ ha)), a1, rfl⟩
      · rw [← List.append_assoc, ← List.append_assoc]
        exact List.Perm.append_right _ List.perm_append_comm
/-- down a path -/
theorem Own.nav (f : D → Option D) : ∀ (ds : List D) (d : D) (n : Nat) (v : V) (fp : List Addr) (d' : D), ds.length < n → Own K w C H G d n v fp → updP f ds d = some d' →
    ∃ v' dp dp' fpp rest, f dp = some dp' ∧ getP ds d = some dp ∧ Nav H v ds v' ∧ Own K w C H G dp (n - ds.length) v' fpp ∧ fp.Perm (fpp ++ rest) ∧
      ∀ (H' : Hp) (G' : Gs) (fpp' : List Addr), (∀ a ∈ rest, ∀ o, H a = some o → H' a = some o) → Sty H G H' G' → Own K w C H' G' dp' (n - ds.length) v' fpp' → ∃ fp', Own K w C H' G' d' n v fp' ∧ fp'.Perm (fpp' ++ rest)
  | [], d, n, v, fp, d', _, h, e => ⟨v, d, d', fp, [], e, rfl, .nil v, h, by simp, fun H' G' fpp' _ _ hy => ⟨fpp', hy, by simp⟩⟩
  | i :: ds, d, n, v, fp, d', hn, h, e => by
    obtain ⟨n, rfl⟩ : ∃ m, n = m + 1 := ⟨n - 1, by simp at hn; omega⟩
    cases d with
    | lst xs =>
      unfold updP at e
      obtain ⟨x, ex, e⟩ := Option.bind_eq_some_iff.mp e
      obtain ⟨y, ey, e⟩ := Option.bind_eq_some_iff.mp e
      cases i with
      | int i =>
        simp only [D.setI] at e
        obtain ⟨j, ej, rfl⟩ := Option.map_eq_some_iff.mp e
        simp only [D.getI] at ex
        rw [ej] at ex
        have ex : xs[j]? = some x := ex
        unfold Own at h
        obtain ⟨a, vs, fps, rfl, ha, ho, rfl⟩ := h
        obtain ⟨v1, f1, f2, e1, e2, e3, e4⟩ := Owns.nth ho ex
        obtain ⟨v', dp, dp', fpp, rest, k1, k2, k3, k4, k5, k6⟩ := Own.nav f ds x n v1 f1 y (by simp at hn; omega) e2 ey
        have hl : n + 1 - (D.int i :: ds).length = n - ds.length := by simp
        rw [hl]
        refine ⟨v', dp, dp', fpp, a :: (rest ++ f2), k1, ?_, .lst ha ?_ k3, k4, ?_, fun H' G' fpp' hk st hy => ?_⟩
        · simp only [getP, D.getI, ej]
          show ((xs[j]?).bind fun x => getP ds x) = some dp
          rw [ex]; exact k2
        · unfold atI
          have : vs.length = xs.length := Owns.length ho
          rw [this, ← ixP_eq, ej]; exact e1
        · refine ((e3.cons a).trans ((k5.append_right f2).cons a)).trans ?_
          rw [List.append_assoc]
          exact (List.perm_middle (l₁ := fpp) (l₂ := rest ++ f2) (a := a)).symm
        · obtain ⟨fp1, a1, a2⟩ := k6 H' G' fpp' (fun b hb => hk b (List.mem_cons_of_mem _ (List.mem_append_left _ hb))) st hy
          obtain ⟨fp2, b1, b2⟩ := e4 H' G' y v1 fp1 (fun b hb => hk b (List.mem_cons_of_mem _ (List.mem_append_right _ hb))) st a1
          refine ⟨a :: fp2, ?_, ?_⟩
          · unfold Own
            refine ⟨a, vs, fp2, rfl, hk a List.mem_cons_self _ ha, ?_, rfl⟩
            have hs : vs.set j v1 = vs := by
              obtain ⟨hj, rfl⟩ := List.getElem?_eq_some_iff.mp e1
              exact List.set_getElem_self hj
            rw [hs] at b1
            exact b1
          · refine ((b2.cons a).trans ((a2.append_right f2).cons a)).trans ?_
            rw [List.append_assoc]
            exact (List.perm_middle (l₁ := fpp') (l₂ := rest ++ f2) (a := a)).symm
      | _ => simp [D.setI] at e
    | _ => simp [updP] at e
theorem Nav.mono : ∀ {ds : List D} {d : D} {n : Nat} {v v' : V} {fp : List Addr} {dp : D}, ds.length < n → getP ds d = some dp → Own K w C H G d n v fp → Nav H v ds v' → (∀ a ∈ fp, ∀ o, H a = some o → H' a = some o) → Nav H' v ds v'
  | [], _, _, _, _, _, _, _, _, _, h, _ => by cases h; exact .nil _
  | i :: ds, d, n, v, v', fp, dp, hn, hg, ho, h, hk => by
    cases h with
    | @lst a vs i v1 _ _ ha hv hr =>
      obtain ⟨n, rfl⟩ : ∃ m, n = m + 1 := ⟨n - 1, by simp at hn; omega⟩
      cases d with
      | lst xs =>
        unfold getP at hg
        obtain ⟨z, hz, hg2⟩ := Option.bind_eq_some_iff.mp hg
        unfold Own at ho
        obtain ⟨a', vs', fps, e, ha', ho, rfl⟩ := ho
        cases e
        rw [ha] at ha'; cases ha'
        refine .lst (hk a List.mem_cons_self _ ha) hv ?_
        unfold atI at hv
        obtain ⟨j, h1, h2⟩ := Option.bind_eq_some_iff.mp hv
        have hj : j < xs.length := by rw [← Owns.length ho]; exact (List.getElem?_eq_some_iff.mp h2).1
        obtain ⟨u, f1, f2, e1, e2, e3, _⟩ := Owns.nth ho (List.getElem?_eq_getElem hj)
        rw [h2] at e1; cases e1
        have ez : xs[j] = z := by
          simp only [D.getI] at hz
          have e5 : ixP xs.length i = some j := by rw [ixP_eq, ← Owns.length ho]; exact h1
          rw [e5] at hz
          have hz : xs[j]? = some z := hz
          rw [List.getElem?_eq_getElem hj] at hz
          exact Option.some.inj hz
        rw [ez] at e2
        exact Nav.mono (dp := dp) (by simp at hn; omega) hg2 e2 hr fun b hb => hk b (List.mem_cons_of_mem _ (e3.mem_iff.mpr (List.mem_append_left _ hb)))
      | _ => simp [getP] at hg
theorem Nav.inj : ∀ {ds : List D} {v u u' : V}, Nav H v ds u → Nav H v ds u' → u = u'
  | [], _, _, _, h1, h2 => by cases h1; cases h2; rfl
  | _ :: ds, _, _, _, h1, h2 => by
    cases h1 with
    | lst a1 b1 c1 =>
      cases h2 with
      | lst a2 b2 c2 =>
        rw [a1] at a2; cases a2
        rw [b1] at b2; cases b2
        exact Nav.inj c1 c2
theorem Nav.snoc : ∀ {ds : List D} {i : D} {v u : V}, Nav H v (ds ++ [i]) u → ∃ x, Nav H v ds x ∧ Nav H x [i] u
  | [], i, v, u, h => ⟨v, .nil v, h⟩
  | _ :: ds, i, v, u, h => by
    cases h with
    | lst a b c =>
      obtain ⟨x, h1, h2⟩ := Nav.snoc c
      exact ⟨x, .lst a b h1, h2⟩
end
end Hx
namespace Hx
open PySem PySem.Spec PyProof.Rows L2
section
variable {K : PySem.W.Frag} {w : World} {C : Str → Addr} {H0 H H' H1 H2 : Hp} {G0 G G' G1 G2 : Gs} {fps fps' fps1 fps2 : Nat → List Addr} {σ : List (Option V)} {s s' s1 : St} {W : WX} {Q : VK}
/-- a slot stored: new and owned to depth n -/
theorem Ok.storeO (o : Ok K w C H0 G0 σ H s fps G) {i n : Nat} {d : D} {v : V} {fp : List Addr} (hn : 0 < n) (ow : Own K w C H G d n v fp) (nd : fp.Nodup) (hf : ∀ a ∈ fp, H0 a = none ∧ ¬ G.Z a ∧ ¬ G.F a ∧ ∀ j, a ∉ fps j) :
    Ok K w C H0 G0 (σ.set i (some v)) H { s with env := s.env.set i (.ow n d) } (setF fps i (if i < s.env.length then fp else [])) G := by
  by_cases hi : i < s.env.length
  · rw [if_pos hi]
    refine ⟨o.gi, o.wr, ⟨by simp only [List.length_set]; exact o.er.len, fun j sl x h1 h2 => ?_, fun j hj => ?_⟩, fun j => ?_, fun j l a hne ha hb => ?_, fun j a ha => ?_, fun j a ha => ?_, o.base, o.zb, fun j a ha => ?_⟩
    · by_cases hj : j = i
      · subst hj
        have h1' : (s.env.set j (.ow n d))[j]? = some sl := h1
        rw [List.getElem?_set_self hi] at h1'
        cases h1'
        rw [List.getElem?_set_self (by rw [o.er.len]; exact hi)] at h2
        cases h2
        rw [setF_self]
        exact ⟨hn, v, rfl, ow⟩
      · have h1' : (s.env.set i (.ow n d))[j]? = some sl := h1
        rw [List.getElem?_set_ne (Ne.symm hj)] at h1' h2
        rw [setF_ne hj]
        exact o.er.at_ j sl x h1' h2
    · have hj' : s.env.length ≤ j := by
        have : (s.env.set i (.ow n d)).length ≤ j := hj
        rw [List.length_set] at this; exact this
      rw [setF_ne (by omega)]
      exact o.er.out j hj'
    · by_cases hj : j = i
      · rw [hj, setF_self]; exact nd
      · rw [setF_ne hj]; exact o.nd j
    · by_cases hj : j = i
      · rw [hj, setF_self] at ha
        rw [setF_ne (fun e => hne (hj.trans e.symm))] at hb
        exact (hf a ha).2.2.2 l hb
      · rw [setF_ne hj] at ha
        by_cases hl : l = i
        · rw [hl, setF_self] at hb
          exact (hf a hb).2.2.2 j ha
        · rw [setF_ne hl] at hb
          exact o.dj j l a hne ha hb
    · by_cases hj : j = i
      · rw [hj, setF_self] at ha; exact (hf a ha).2.1
      · rw [setF_ne hj] at ha; exact o.nz j a ha
    · by_cases hj : j = i
      · rw [hj, setF_self] at ha; exact (hf a ha).2.2.1
      · rw [setF_ne hj] at ha; exact o.nF j a ha
    · by_cases hj : j = i
      · rw [hj, setF_self] at ha; exact (hf a ha).1
      · rw [setF_ne hj] at ha; exact o.nb j a ha
  · rw [if_neg hi]
    have e1 : s.env.set i (.ow n d) = s.env := List.set_eq_of_length_le (by omega)
    have e2 : σ.set i (some v) = σ := List.set_eq_of_length_le (by rw [o.er.len]; omega)
    have e3 : setF fps i [] = fps := by
      funext j
      by_cases hj : j = i
      · rw [hj, setF_self, o.er.out i (by omega)]
      · rw [setF_ne hj]
    rw [e1, e2, e3]
    exact o
/-- what slot i owns is changed at b -/
theorem Ok.mut (o : Ok K w C H0 G0 σ H s fps G) {i n : Nat} {d d' : D} {v : V} (h : s.env[i]? = some (.ow n d)) (hv : σ[i]? = some (some v)) {b : Addr} {ob o' : HO} (hb : H b = some ob) (hc : Chg ob) (hbi : b ∈ fps i) {fp' : List Addr}
    (own : Own K w C (upd H b o') G d' n v fp') (nd : fp'.Nodup) (hf : ∀ a ∈ fp', a ∈ fps i ∨ (H0 a = none ∧ ¬ G.Z a ∧ ¬ G.F a ∧ ∀ j, a ∉ fps j)) :
    Ok K w C H0 G0 σ (upd H b o') { s with env := s.env.set i (.ow n d') } (setF fps i fp') G ∧ Sty H G (upd H b o') G := by
  have nz := o.nz i b hbi
  have nF := o.nF i b hbi
  have n0 := o.nb i b hbi
  have hi := (List.getElem?_eq_some_iff.mp h).1
  have hn : 0 < n := (o.peek h).1
  have ne : ∀ {a}, a ≠ b → upd H b o' a = H a := fun h => upd_ne h
  have nT : ∀ {a x}, G.F a → H a = x → upd H b o' a = x := fun f e => by rw [ne (fun z => nF (z ▸ f))]; exact e
  have sty : Sty H G (upd H b o') G := ⟨poke_hk hb hc nz, fun _ z => z, fun _ q => .inl q, fun _ q => q, fun a ha => by
    by_cases e : a = b
    · subst e; rw [upd_same] at ha; cases ha
    · rw [ne e] at ha; exact ha⟩
  refine ⟨⟨⟨o.gi.zf, fun a z => ?_, fun a z => ?_⟩, ?_, ⟨by rw [List.length_set]; exact o.er.len, fun j sl x h1 h2 => ?_, fun j hj => ?_⟩, fun j => ?_, fun j l a hne ha hb' => ?_, fun j a ha => ?_, fun j a ha => ?_, ⟨fun a ob' e f => ?_, o.base.zz, o.base.fn, o.base.ff, o.base.tt⟩, o.zb, fun j a ha => ?_⟩, sty⟩
  · rw [ne (fun e => nz (e ▸ z))]; exact o.gi.zh a z
  · obtain ⟨xs, e⟩ := o.gi.fl a z
    exact ⟨xs, nT z e⟩
  · have wr := o.wr
    show WR _ _ s.w
    cases hw : s.w with
    | none => rw [hw] at wr; exact wr
    | some p =>
      rw [hw] at wr
      obtain ⟨n1, n2, n3, aT, aN, n4, n5, n6, n7, n8⟩ := wr
      exact ⟨n1, n2, n3, aT, aN, n4, nT ((n7 aT).mpr (.inl rfl)) n5, nT ((n7 aN).mpr (.inr rfl)) n6, n7, n8⟩
  · have h1' : (s.env.set i (.ow n d'))[j]? = some sl := h1
    by_cases hj : j = i
    · subst hj
      rw [List.getElem?_set_self hi] at h1'
      cases h1'
      rw [hv] at h2; cases h2
      rw [setF_self]
      exact ⟨hn, v, rfl, own⟩
    · rw [List.getElem?_set_ne (Ne.symm hj)] at h1'
      rw [setF_ne hj]
      have q := o.er.at_ j sl x h1' h2
      cases sl with
      | un => exact q
      | fz d => obtain ⟨⟨v, e, hv⟩, z⟩ := q; exact ⟨⟨v, e, hv.poke hb hc nz⟩, z⟩
      | ow n d => obtain ⟨hn, v, e, hv⟩ := q; exact ⟨hn, v, e, hv.poke hb hc nz (o.dj i j b (Ne.symm hj) hbi)⟩
  · have hj' : s.env.length ≤ j := by
      have : (s.env.set i (.ow n d')).length ≤ j := hj
      rw [List.length_set] at this; exact this
    rw [setF_ne (by omega)]
    exact o.er.out j hj'
  · by_cases hj : j = i
    · rw [hj, setF_self]; exact nd
    · rw [setF_ne hj]; exact o.nd j
  · by_cases hj : j = i
    · rw [hj, setF_self] at ha
      rw [setF_ne (fun e => hne (hj.trans e.symm))] at hb'
      rcases hf a ha with z | z
      · exact o.dj i l a (fun e => hne (hj.trans e)) z hb'
      · exact z.2.2.2 l hb'
    · rw [setF_ne hj] at ha
      by_cases hl : l = i
      · rw [hl, setF_self] at hb'
        rcases hf a hb' with z | z
        · exact o.dj i j a (Ne.symm hj) z ha
        · exact z.2.2.2 j ha
      · rw [setF_ne hl] at hb'
        exact o.dj j l a hne ha hb'
  · by_cases hj : j = i
    · rw [hj, setF_self] at ha
      rcases hf a ha with z | z
      · exact o.nz i a z
      · exact z.2.1
    · rw [setF_ne hj] at ha; exact o.nz j a ha
  · by_cases hj : j = i
    · rw [hj, setF_self] at ha
      rcases hf a ha with z | z
      · exact o.nF i a z
      · exact z.2.2.1
    · rw [setF_ne hj] at ha; exact o.nF j a ha
  · have e2 := o.base.keep a ob' e f
    rw [ne (fun z => by rw [z, n0] at e; cases e)]
    exact e2
  · by_cases hj : j = i
    · rw [hj, setF_self] at ha
      rcases hf a ha with z | z
      · exact o.nb i a z
      · exact z.1
    · rw [setF_ne hj] at ha; exact o.nb j a ha
end
/-- what is wanted behind a statement; rn: how deep the def's value is new -/
def RdS (M : Md) (rn : Nat) (D : Ends) (H : Hp) (G : Gs) : Res Flow → Prop
  | .ok .nx s' => ∀ σ' H' G' fps', M.Ok σ' H' s' fps' G' → Sty H G H' G' → D.nx σ' H'
  | .ok (.rt d) s' => ∀ v σ' H' G' fps' fp, M.Ok σ' H' s' fps' G' → Sty H G H' G' → Own M.X.K M.X.w M.C H' G' d rn v fp → fp.Nodup → (∀ a ∈ fp, M.H0 a = none ∧ ¬ G'.Z a ∧ ¬ G'.F a) → D.rt v H'
  | .exc c fs s' => ∀ σ' H' G' fps' dd, M.Ok σ' H' s' fps' G' → Sty H G H' G' → XR M.X.K M.X.w M.C H' G' c fs dd → M.W (.ref (M.C c)) dd σ' H'
  | .stuck => False
def rdS (M : Md) (rn : Nat) (b : S) : TS := fun D σ H => ∃ s fps G, M.Ok σ H s fps G ∧ RdS M rn D H G (ex M.sem M.rd b s)
section
variable {M : Md} {rn : Nat} {D : Ends} {σ : L2.St} {H H1 : Hp} {G G1 : Gs} {fps fps1 : Nat → List Addr} {s : St} {e a b c : E}
theorem RdS.rebase {r : Res Flow} (st : Sty H G H1 G1) (h : RdS M rn D H G r) : RdS M rn D H1 G1 r := by
  cases r with
  | ok f s' =>
    cases f with
    | nx => exact fun σ' H' G' fps' o t => h σ' H' G' fps' o (st.trans t)
    | rt d => exact fun v σ' H' G' fps' fp o t => h v σ' H' G' fps' fp o (st.trans t)
  | exc c fs s' => exact fun σ' H' G' fps' dd o t => h σ' H' G' fps' dd o (st.trans t)
  | stuck => exact h
theorem RdS.bindE {α : Type} {r : Res α} {f : α → St → Res Flow} (o : M.Ok σ H s fps G) (h : RdS M rn D H G (r.bind f)) : M.G σ H G fps (fun d s1 H1 G1 _ => RdS M rn D H1 G1 (f d s1)) r := by
  cases r with
  | ok d s1 => exact fun H1 G1 fps1 o1 st => RdS.rebase (st.stp.sty o.gi o1.gi) h
  | exc c fs s1 => exact fun H1 G1 fps1 dd o1 st xr => h σ H1 G1 fps1 dd o1 (st.stp.sty o.gi o1.gi) xr
  | stuck => exact h
theorem cool_sty {H : Hp} {G : Gs} {fp : List Addr} : Sty H G H (G.cool fp) := ⟨fun _ _ h _ => h, fun _ z => .inl z, fun _ h => .inl h, fun _ h => h, fun _ h => h⟩
/-- handed on: never changed again -/
theorem Got.frzS {n : Nat} {d : Hx.D} {v : V} (g : Got M.X.K M.X.w M.C 0 n H H1 G1 fps1 d v) (o : M.Ok σ H s fps G) (o1 : M.Ok σ H1 s1 fps1 G1) (st : Stv H G fps H1 G1 fps1) :
    ∃ G2, M.Ok σ H1 s1 fps1 G2 ∧ Sty H1 G1 H1 G2 ∧ Val M.X.K M.X.w M.C H1 G2 d 0 v := by
  obtain ⟨fp, h1, h2⟩ := g.own
  obtain ⟨o2, st2⟩ := o1.cool h2 st h1.live o.none0
  exact ⟨_, o2, cool_sty, Own.freeze _ _ _ _ h1 h2.nF⟩
theorem s_xpr (h : rdS M rn (.xpr e) D σ H) : tDrop (rdE M e 0) D σ H := by
  obtain ⟨s, fps, G, o, q⟩ := h
  unfold ex at q
  exact ⟨s, fps, G, o, RdG.toE (RdS.bindE o q) fun d s1 H1 G1 fps1 v o1 st g q1 => q1 σ H1 G1 fps1 o1 .refl⟩
theorem s_asg {t : Tg} (h : rdS M rn (.asg t e) D σ H) : tAsg (rdE M e 0) (rdG M t) D σ H := by
  obtain ⟨s, fps, G, o, q⟩ := h
  unfold ex at q
  refine ⟨s, fps, G, o, RdG.toE (RdS.bindE o q) fun d s1 H1 G1 fps1 v o1 st g q1 => ?_⟩
  obtain ⟨G2, o2, st2, hv⟩ := g.frzS o o1 st
  cases ee : stTg t d s1.env with
  | none => rw [ee] at q1; exact False.elim q1
  | some env' =>
    rw [ee] at q1
    have q1 : RdS M rn D H1 G1 (.ok .nx { s1 with env := env' }) := q1
    exact ⟨s1, fps1, G2, d, env', o2, hv, ee, fun σ' fps' o' sv ag => q1 σ' H1 G2 fps' o' st2⟩
theorem s_asgo {i n : Nat} (h : rdS M rn (.asgo i n e) D σ H) : tAsg (rdE M e 0) (gName i) D σ H := by
  obtain ⟨s, fps, G, o, q⟩ := h
  unfold ex at q
  have q2 := RdS.bindE o q
  -- to the depth n
  by_cases hn : n ≤ dep M.rd e ∧ 0 < n
  · refine ⟨s, fps, G, o, RdG.less hn.1 o (RdG.toE (k := 0) (n := n) q2 fun d s1 H1 G1 fps1 v o1 st g q1 => ?_)⟩
    rw [if_pos hn] at q1
    obtain ⟨fp, ow, f⟩ := g.own
    have o2 := o1.storeO (i := i) hn.2 ow f.nd fun a ha => ⟨o.none0 a (f.new a ha), f.nz a ha, f.nF a ha, fun j => f.dj j a ha⟩
    exact q1 _ H1 G1 _ o2 .refl
  · refine ⟨s, fps, G, o, RdG.toE q2 fun d s1 H1 G1 fps1 v o1 st g q1 => ?_⟩
    rw [if_neg hn] at q1
    exact False.elim q1
theorem s_ret (hn : rn ≤ dep M.rd e) (h : rdS M rn (.ret e) D σ H) : tRet (rdE M e 0) D σ H := by
  obtain ⟨s, fps, G, o, q⟩ := h
  unfold ex at q
  refine ⟨s, fps, G, o, RdG.less hn o (RdG.toE (k := 0) (n := rn) (RdS.bindE o q) fun d s1 H1 G1 fps1 v o1 st g q1 => ?_)⟩
  obtain ⟨fp, ow, f⟩ := g.own
  exact q1 v σ H1 G1 fps1 fp o1 .refl ow f.nd fun a ha => ⟨o.none0 a (f.new a ha), f.nz a ha, f.nF a ha⟩
theorem s_retN (h : rdS M rn .retn D σ H) : tRetN D σ H := by
  obtain ⟨s, fps, G, o, q⟩ := h
  unfold ex at q
  exact q .non σ H G fps [] o .refl (by unfold Own Val; exact ⟨rfl, rfl⟩) List.nodup_nil (fun _ h => nomatch h)
theorem s_skip (h : rdS M rn .skip D σ H) : tNext D σ H := by
  obtain ⟨s, fps, G, o, q⟩ := h
  unfold ex at q
  exact q σ H G fps o .refl
theorem s_seq {x y : S} (h : rdS M rn (.seq x y) D σ H) : tSeq (rdS M rn x) (rdS M rn y) D σ H := by
  obtain ⟨s, fps, G, o, q⟩ := h
  unfold ex at q
  refine ⟨s, fps, G, o, ?_⟩
  cases e : ex M.sem M.rd x s with
  | ok f s' =>
    rw [e] at q
    cases f with
    | nx => exact fun σ' H' G' fps' o' st => ⟨s', fps', G', o', RdS.rebase st q⟩
    | rt d => exact q
  | exc c fs s' => rw [e] at q; exact q
  | stuck => rw [e] at q; exact q
theorem s_ite {x y : S} (h : rdS M rn (.ite c x y) D σ H) : tIfS (rdT M c) (rdS M rn x) (rdS M rn y) D σ H := by
  obtain ⟨s, fps, G, o, q⟩ := h
  unfold ex at q
  refine ⟨s, fps, G, o, (RdS.bindE o q).imp fun d s1 H1 G1 fps1 hr o1 st q1 => ?_⟩
  clear hr
  split at q1
  · rename_i t
    refine ⟨t, rfl, ?_⟩
    cases t with
    | true => rw [if_pos rfl] at q1 ⊢; exact ⟨s1, fps1, G1, o1, q1⟩
    | false => rw [if_neg (by decide)] at q1 ⊢; exact ⟨s1, fps1, G1, o1, q1⟩
  · exact False.elim q1
/-- for -/
theorem s_fr {t : Tg} {it : E} {x : S} (h : rdS M rn (.fr t it x) D σ H) : tFor (rdI M it) (rdG M t) (rdS M rn x) D σ H := by
  obtain ⟨s, fps, G, o, q⟩ := h
  unfold ex at q
  refine ⟨s, fps, G, o, (RdS.bindE o q).imp fun ds s1 H1 G1 fps1 hr o1 st q1 o1' J W => ?_⟩
  clear hr
  let f := fun (d : Hx.D) (s : St) => (opt (stTg t d s.env) s).bind fun env s => ex M.sem M.rd x { s with env := env }
  have q1 : RdS M rn D H1 G1 (forR f ds s1) := q1
  refine ⟨fun i m σ2 H2 => m = ds.length - i ∧ i ≤ ds.length ∧ ∃ s2 G2 fps2, M.Ok σ2 H2 s2 fps2 G2 ∧ Sty H1 G1 H2 G2 ∧ RdS M rn D H2 G2 (forR f (ds.drop i) s2), ⟨ds.length, by simp, Nat.zero_le _, s1, G1, fps1, o1, .refl, q1⟩, ?_⟩
  rintro i m σ2 H2 ⟨rfl, hi, s2, G2, fps2, o2, st2, q2⟩
  obtain ⟨w1, w2, w3⟩ := W H2 G2 st2
  by_cases hlt : i < ds.length
  · right
    have hd : ds[i]? = some ds[i] := List.getElem?_eq_getElem hlt
    rw [List.drop_eq_getElem_cons hlt] at q2
    refine ⟨w1 i hlt, fun σ' H' => ∃ s' G' fps', M.Ok σ' H' s' fps' G' ∧ Sty H1 G1 H' G' ∧ RdS M rn D H' G' (forR f (ds.drop (i + 1)) s'), fun σ' H' ⟨s', G', fps', o', st', q'⟩ => ⟨ds.length - (i + 1), by omega, rfl, hlt, s', G', fps', o', st', q'⟩, fun v H3 y => ?_⟩
    obtain ⟨gr, hv⟩ := w3 i v H3 _ hd y
    obtain ⟨o3, sv3⟩ := o2.grow (H' := H3) (fp := []) gr (fun _ h => nomatch h) (fun _ h => nomatch h)
    have st3 : Sty H2 G2 H3 (G2.cool []) := sv3.stp.sty o2.gi o3.gi
    have q3 : RdS M rn D H2 G2 ((f ds[i] s2).bind fun fl s1 => match fl with
      | .nx => forR f (ds.drop (i + 1)) s1
      | .rt v => .ok (.rt v) s1) := q2
    cases ee : stTg t ds[i] s2.env with
    | none =>
      have : f ds[i] s2 = .stuck := by show (opt (stTg t ds[i] s2.env) s2).bind _ = _; rw [ee]; rfl
      rw [this] at q3
      exact False.elim q3
    | some env' =>
      have ef : f ds[i] s2 = ex M.sem M.rd x { s2 with env := env' } := by show (opt (stTg t ds[i] s2.env) s2).bind _ = _; rw [ee]; rfl
      rw [ef] at q3
      refine ⟨s2, fps2, _, ds[i], env', o3, hv.cool, ee, fun σ4 fps4 o4 sv4 ag => ⟨_, fps4, _, o4, ?_⟩⟩
      have q4 := RdS.rebase st3 q3
      cases er : ex M.sem M.rd x { s2 with env := env' } with
      | ok fl s5 =>
        rw [er] at q4
        cases fl with
        | nx => exact fun σ' H' G' fps' o' st' => ⟨s5, G', fps', o', (st2.trans st3).trans st', RdS.rebase st' q4⟩
        | rt d => exact q4
      | exc c' fs' s5 => rw [er] at q4; exact q4
      | stuck => rw [er] at q4; exact q4
  · left
    have ei : i = ds.length := by omega
    subst ei
    rw [List.drop_length] at q2
    exact ⟨w2, q2 σ2 H2 G2 fps2 o2 .refl⟩
/-- while -/
theorem s_whl {x : S} (h : rdS M rn (.whl c x) D σ H) : tWhile (rdT M c) (rdS M rn x) D σ H := by
  obtain ⟨s, fps, G, o, q⟩ := h
  unfold ex at q
  let f := fun (s : St) => (ev M.sem c 99 s).bind fun x s => (match x with
      | .bl t => Res.ok t s
      | _ => .stuck)
  have q : RdS M rn D H G (whileR f (ex M.sem M.rd x) fuel s) := q
  refine ⟨fun m σ2 H2 => ∃ s2 G2 fps2, M.Ok σ2 H2 s2 fps2 G2 ∧ RdS M rn D H2 G2 (whileR f (ex M.sem M.rd x) m s2), ⟨fuel, s, G, fps, o, q⟩, ?_⟩
  rintro m σ2 H2 ⟨s2, G2, fps2, o2, q2⟩
  refine ⟨s2, fps2, G2, o2, ?_⟩
  cases m with
  | zero => exact False.elim q2
  | succ m =>
    have q3 : RdS M rn D H2 G2 ((f s2).bind fun t s1 => if t then (ex M.sem M.rd x s1).bind fun fl s2 => (match fl with
      | .nx => whileR f (ex M.sem M.rd x) m s2
      | .rt v => .ok (.rt v) s2) else .ok .nx s1) := q2
    cases er : ev M.sem c 99 s2 with
    | stuck =>
      have : f s2 = .stuck := by show (ev M.sem c 99 s2).bind _ = _; rw [er]; rfl
      rw [this] at q3; exact False.elim q3
    | exc c' fs' s5 =>
      have : f s2 = .exc c' fs' s5 := by show (ev M.sem c 99 s2).bind _ = _; rw [er]; rfl
      rw [this] at q3
      exact fun H' G' fps' dd o' st' xr => q3 σ2 H' G' fps' dd o' (st'.stp.sty o2.gi o'.gi) xr
    | ok b s3 =>
      cases b with
      | bl b =>
        have : f s2 = .ok b s3 := by show (ev M.sem c 99 s2).bind _ = _; rw [er]; rfl
        rw [this] at q3
        intro H3 G3 fps3 o3 st3
        refine ⟨b, rfl, ?_⟩
        have q4 := RdS.rebase (st3.stp.sty o2.gi o3.gi) q3
        cases b with
        | false =>
          simp only [Bool.false_eq_true, if_false]
          exact q4 σ2 H3 G3 fps3 o3 .refl
        | true =>
          simp only [if_true]
          simp only [Res.bind, if_true] at q4
          refine ⟨fun σ' H' => ∃ s' G' fps', M.Ok σ' H' s' fps' G' ∧ RdS M rn D H' G' (whileR f (ex M.sem M.rd x) m s'), fun σ' H' ⟨s', G', fps', o', q'⟩ => ⟨m, Nat.lt_succ_self m, s', G', fps', o', q'⟩, s3, fps3, G3, o3, ?_⟩
          cases es : ex M.sem M.rd x s3 with
          | ok fl s5 =>
            rw [es] at q4
            cases fl with
            | nx => exact fun σ' H' G' fps' o' st' => ⟨s5, G', fps', o', RdS.rebase st' q4⟩
            | rt d => exact q4
          | exc c' fs' s5 => rw [es] at q4; exact q4
          | stuck => rw [es] at q4; exact q4
      | _ =>
        have : f s2 = .stuck := by show (ev M.sem c 99 s2).bind _ = _; rw [er]; rfl
        rw [this] at q3; exact False.elim q3
end
end Hx
namespace Hx
open PySem PySem.Spec PyProof.Rows L2
section
variable {K : PySem.W.Frag} {w : World} {C : Str → Addr} {H H' : Hp} {G G' : Gs}
theorem Owns.app : ∀ {ds es : List D} {n : Nat} {vs us : List V} {f1 f2 : List Addr}, Own.Owns K w C H G ds n vs f1 → Own.Owns K w C H G es n us f2 → Own.Owns K w C H G (ds ++ es) n (vs ++ us) (f1 ++ f2)
  | [], _, _, _, _, _, _, h, h2 => by unfold Own.Owns at h; obtain ⟨rfl, rfl⟩ := h; exact h2
  | d :: ds, es, n, _, us, _, f2, h, h2 => by
    unfold Own.Owns at h
    obtain ⟨v, r, g1, g2, rfl, a, b, rfl⟩ := h
    rw [List.cons_append, List.cons_append, List.append_assoc]
    unfold Own.Owns
    exact ⟨v, r ++ us, g1, g2 ++ f2, rfl, a, Owns.app b h2, rfl⟩
theorem Owns.erase : ∀ {xs : List D} {n : Nat} {vs : List V} {fp : List Addr} {j : Nat} {x : D}, Own.Owns K w C H G xs n vs fp → xs[j]? = some x →
    ∃ v f1 f2, vs[j]? = some v ∧ Own K w C H G x n v f1 ∧ fp.Perm (f1 ++ f2) ∧ Own.Owns K w C H G (xs.eraseIdx j) n (vs.eraseIdx j) f2
  | [], _, _, _, _, _, _, e => by simp at e
  | d :: ds, n, _, _, 0, x, h, e => by
    simp at e; subst e
    unfold Own.Owns at h
    obtain ⟨v, r, f1, f2, rfl, h1, h2, rfl⟩ := h
    exact ⟨v, f1, f2, rfl, h1, .refl _, by simpa using h2⟩
  | d :: ds, n, _, _, j + 1, x, h, e => by
    unfold Own.Owns at h
    obtain ⟨v, r, f1, f2, rfl, h1, h2, rfl⟩ := h
    obtain ⟨w', g1, g2, e1, e2, e3, e4⟩ := Owns.erase h2 (by simpa using e)
    refine ⟨w', g1, f1 ++ g2, by simpa using e1, e2, ?_, ?_⟩
    · refine ((List.Perm.refl f1).append e3).trans ?_
      rw [← List.append_assoc, ← List.append_assoc]
      exact List.Perm.append_right _ List.perm_append_comm
    · rw [List.eraseIdx_cons_succ, List.eraseIdx_cons_succ]
      unfold Own.Owns
      exact ⟨v, _, f1, g2, rfl, h1, e4, rfl⟩
theorem nav_of_get : ∀ {ds : List D} {d : D} {n : Nat} {v : V} {fp : List Addr} {dp : D}, ds.length < n → Own K w C H G d n v fp → getP ds d = some dp → ∃ v', Nav H v ds v'
  | [], _, _, v, _, _, _, _, _ => ⟨v, .nil v⟩
  | i :: ds, d, n, v, fp, dp, hn, h, e => by
    obtain ⟨n, rfl⟩ : ∃ m, n = m + 1 := ⟨n - 1, by simp at hn; omega⟩
    cases d with
    | lst xs =>
      unfold getP at e
      obtain ⟨x, ex, eg⟩ := Option.bind_eq_some_iff.mp e
      cases i with
      | int i =>
        simp only [D.getI] at ex
        obtain ⟨j, e1, e2⟩ := Option.bind_eq_some_iff.mp ex
        unfold Own at h
        obtain ⟨a, vs, fps, rfl, ha, ho, rfl⟩ := h
        obtain ⟨v1, f1, f2, k1, k2, _, _⟩ := Owns.nth ho e2
        obtain ⟨v', hv'⟩ := nav_of_get (by simp at hn; omega) k2 eg
        refine ⟨v', .lst ha ?_ hv'⟩
        unfold atI
        rw [Owns.length ho, ← ixP_eq, e1]
        exact k1
      | _ => simp [D.getI] at ex
    | _ => simp [getP] at e
end
section
variable {M : Md} {rn : Nat} {Dn : Ends} {σ : L2.St} {H H1 : Hp} {G G1 : Gs} {fps fps1 : Nat → List Addr} {s : St} {e a b c : E} {i : Nat}
/-- the thing at a path is changed -/
theorem Ok.chg (o : M.Ok σ H s fps G) {n : Nat} {d d' : D} {p : List D} {f : D → Option D} (h : s.env[i]? = some (.ow n d)) (hp : p.length < n) (e : updP f p d = some d') (hf : ∀ x y, f x = some y → (∃ xs, x = .lst xs) ∧ ∃ ys, y = .lst ys) :
    ∃ v0 b us ys zs m fys, σ[i]? = some (some v0) ∧ n = p.length + 1 + m ∧ getP p d = some (.lst ys) ∧ f (.lst ys) = some (.lst zs) ∧ Nav H v0 p (.ref b) ∧ H b = some (.lst us) ∧ b ∈ fps i ∧ b ∉ fys ∧ (∀ a ∈ fys, a ∈ fps i) ∧ fys.Nodup ∧ Own.Owns M.X.K M.X.w M.C H G ys m us fys ∧
      ∀ (G' : Gs) (us' : List V) (fzs : List Addr), M.Ok σ H s fps G' → Sty H G H G' → Own.Owns M.X.K M.X.w M.C (upd H b (.lst us')) G' zs m us' fzs → fzs.Nodup → (∀ a ∈ fzs, a ∈ fys ∨ (M.H0 a = none ∧ ¬ G'.Z a ∧ ¬ G'.F a ∧ ∀ j, a ∉ fps j)) →
        ∃ fps', M.Ok σ (upd H b (.lst us')) { s with env := s.env.set i (.ow n d') } fps' G' ∧ Sty H G (upd H b (.lst us')) G' ∧ ∀ a ∈ fys, a ∉ fzs → ∀ j, a ∉ fps' j := by
  obtain ⟨hn, v0, hv0, own, _⟩ := o.peek h
  obtain ⟨v', dp, dp', fpp, rest, k1, k2, k3, k4, k5, k6⟩ := Own.nav f p d n v0 (fps i) d' hp own e
  obtain ⟨⟨ys, rfl⟩, zs, rfl⟩ := hf dp dp' k1
  obtain ⟨m, hm⟩ : ∃ m, n - p.length = m + 1 := ⟨n - p.length - 1, by omega⟩
  rw [hm] at k4 k6
  unfold Own at k4
  obtain ⟨b, us, fys, rfl, hb, hus, rfl⟩ := k4
  have hbi : b ∈ fps i := k5.mem_iff.mpr (List.mem_append_left _ List.mem_cons_self)
  have nd := k5.nodup_iff.mp (o.nd i)
  rw [List.nodup_append] at nd
  obtain ⟨nd1, nd2, nd3⟩ := nd
  have nb : b ∉ rest := fun z => nd3 b List.mem_cons_self b z rfl
  refine ⟨v0, b, us, ys, zs, m, fys, hv0, by omega, k2, k1, k3, hb, hbi, (List.nodup_cons.mp nd1).1, fun a ha => k5.mem_iff.mpr (List.mem_append_left _ (List.mem_cons_of_mem _ ha)), (List.nodup_cons.mp nd1).2, hus, fun G' us' fzs o' st hz nz hfz => ?_⟩
  have hbz : b ∉ fzs := fun z => by
    rcases hfz b z with q | q
    · exact (List.nodup_cons.mp nd1).1 q
    · exact q.2.2.2 i hbi
  have styU : Sty H G' (upd H b (.lst us')) G' := ⟨poke_hk hb trivial (o'.nz i b hbi), fun _ z => z, fun _ q => .inl q, fun _ q => q, fun a ha => by
    by_cases e : a = b
    · subst e; rw [upd_same] at ha; cases ha
    · rw [upd_ne e] at ha; exact ha⟩
  obtain ⟨fp', a1, a2⟩ := k6 (upd H b (.lst us')) G' (b :: fzs) (fun a ha ob hob => by rw [upd_ne (fun z : a = b => nb (z ▸ ha))]; exact hob) (st.trans styU) (by
    unfold Own
    exact ⟨b, us', fzs, rfl, upd_same, hz, rfl⟩)
  have ndp : fp'.Nodup := by
    rw [a2.nodup_iff, List.nodup_append]
    refine ⟨List.nodup_cons.mpr ⟨hbz, nz⟩, nd2, fun x hx y hy e => ?_⟩
    subst e
    rcases List.mem_cons.mp hx with e | hx
    · subst e; exact nb hy
    · rcases hfz x hx with q | q
      · exact nd3 x (List.mem_cons_of_mem _ q) x hy rfl
      · exact q.2.2.2 i (k5.mem_iff.mpr (List.mem_append_right _ hy))
  obtain ⟨om, sm⟩ := o'.mut h hv0 hb trivial hbi a1 ndp (fun a ha => by
    rcases List.mem_append.mp (a2.mem_iff.mp ha) with q | q
    · rcases List.mem_cons.mp q with e | q
      · subst e; exact .inl hbi
      · rcases hfz a q with z | z
        · exact .inl (k5.mem_iff.mpr (List.mem_append_left _ (List.mem_cons_of_mem _ z)))
        · exact .inr z
    · exact .inl (k5.mem_iff.mpr (List.mem_append_right _ q)))
  refine ⟨_, om, st.trans sm, fun a ha hna j z => ?_⟩
  have hai : a ∈ fps i := k5.mem_iff.mpr (List.mem_append_left _ (List.mem_cons_of_mem _ ha))
  by_cases hj : j = i
  · rw [hj, setF_self] at z
    rcases List.mem_append.mp (a2.mem_iff.mp z) with q | q
    · rcases List.mem_cons.mp q with e | q
      · subst e; exact (List.nodup_cons.mp nd1).1 ha
      · exact hna q
    · exact nd3 a (List.mem_cons_of_mem _ ha) a q rfl
  · rw [setF_ne hj] at z
    exact o.dj i j a (Ne.symm hj) hai z
theorem own?_some {x : Option Sl} {nd : Nat × D} (h : Sl.own? x = some nd) : x = some (.ow nd.1 nd.2) := by
  cases x with
  | none => cases h
  | some sl =>
    cases sl with
    | un => cases h
    | fz d => cases h
    | ow n d => cases h; rfl
theorem okN_out {acc : List D} (h : okN i acc s = true) : ∃ n d dp, s.env[i]? = some (.ow n d) ∧ acc.length < n ∧ getP acc d = some dp := by
  unfold okN at h
  split at h
  · rename_i nd e
    rw [Bool.and_eq_true, decide_eq_true_eq] at h
    obtain ⟨dp, hd⟩ := Option.isSome_iff_exists.mp h.2
    exact ⟨nd.1, nd.2, dp, own?_some e, h.1, hd⟩
  · cases h
/-- a place within what slot i owns: the expressions of the path, from the first -/
inductive NavE (M : Md) (i : Nat) : Expr → List E → Prop where
  | base {o : Expr} : PE M.X o (tVar i) → NavE M i o []
  | step {o b : Expr} {pos : Pos} {l : List E} {a : E} : NavE M i o l → PE M.X b (rdE M a 0) → PlainIx b → NavE M i (.Subscript o b pos) (l ++ [a])
def E.ofL : List E → E
  | [] => .nil
  | a :: l => .cons a (E.ofL l)
theorem evN_nil {sem : Sem} {acc : List D} {s : St} : evN sem i .nil acc s = if okN i acc s then .ok acc s else .stuck := by unfold evN; rfl
theorem evN_cons {sem : Sem} {a r : E} {acc : List D} {s : St} : evN sem i (.cons a r) acc s = if okN i acc s then (ev sem a 0 s).bind fun d s => evN sem i r (acc ++ [d]) s else .stuck := by
  rw [evN]
theorem evN_snoc {sem : Sem} : ∀ (l : List E) (a : E) (acc : List D) (s : St), evN sem i (E.ofL (l ++ [a])) acc s =
    (evN sem i (E.ofL l) acc s).bind fun ds s => (ev sem a 0 s).bind fun d s => if okN i (ds ++ [d]) s then .ok (ds ++ [d]) s else .stuck
  | [], a, acc, s => by
    show evN sem i (.cons a .nil) acc s = (evN sem i .nil acc s).bind _
    rw [evN_cons, evN_nil]
    simp only [evN_nil]
    split
    · rfl
    · rfl
  | x :: l, a, acc, s => by
    show evN sem i (.cons x (E.ofL (l ++ [a]))) acc s = (evN sem i (.cons x (E.ofL l)) acc s).bind _
    rw [evN_cons, evN_cons]
    split
    · cases ev sem x 0 s with
      | ok d s1 => exact evN_snoc l a (acc ++ [d]) s1
      | exc _ _ _ => rfl
      | stuck => rfl
    · rfl
theorem evN_ok {sem : Sem} : ∀ (l : List E) (acc ds : List D) (s s' : St), evN sem i (E.ofL l) acc s = .ok ds s' → okN i ds s' = true
  | [], acc, ds, s, s', h => by
    have h : evN sem i .nil acc s = .ok ds s' := h
    rw [evN_nil] at h
    split at h
    · cases h; assumption
    · cases h
  | x :: l, acc, ds, s, s', h => by
    have h : evN sem i (.cons x (E.ofL l)) acc s = .ok ds s' := h
    rw [evN_cons] at h
    split at h
    · cases e : ev sem x 0 s with
      | ok d s1 => rw [e] at h; exact evN_ok l _ ds s1 s' h
      | exc _ _ _ => rw [e] at h; cases h
      | stuck => rw [e] at h; cases h
    · cases h
/-- the place, read -/
def rdN (M : Md) (i : Nat) (l : List E) : TE := fun σ H Q => ∃ s fps G, M.Ok σ H s fps G ∧ M.G σ H G fps (fun ds s1 H1 G1 fps1 => ∀ v0 v, σ[i]? = some (some v0) → Nav H1 v0 ds v → Q v H1) (evN M.sem i (E.ofL l) [] s)
theorem pe_nav {o : Expr} {l : List E} (h : NavE M i o l) : PE M.X o (rdN M i l) := by
  induction h with
  | base hp =>
    refine PE.imp hp fun σ H Q ⟨s, fps, G, o, q⟩ => ?_
    have q : M.G σ H G fps _ (evN M.sem i .nil [] s) := q
    rw [evN_nil] at q
    split at q
    · rename_i hk
      obtain ⟨n, d, dp, e1, e2, e3⟩ := okN_out hk
      obtain ⟨_, v0, hv0, _, _⟩ := o.peek e1
      exact ⟨v0, hv0, q H G fps o .refl v0 v0 hv0 (.nil v0)⟩
    · exact False.elim q
  | @step o b pos l a _ hb hs ih =>
    refine PE.imp (pe_ix ix_list ih hb hs) fun σ H Q ⟨s, fps, G, o, q⟩ => ?_
    rw [evN_snoc] at q
    refine ⟨s, fps, G, o, (RdG.bindB q).imp fun ds s1 H1 G1 fps1 hr o1 st1 q1 v0 x hv0 nx => ?_⟩
    obtain ⟨n1, d1, dp1, e1, e2, e3⟩ := okN_out (evN_ok _ _ _ _ _ hr)
    refine ⟨s1, fps1, G1, o1, RdG.less (Nat.zero_le _) o1 ((RdG.bindB (RdG.rebase st1 o1.gi q1)).toE (n := 0) fun d s2 H2 G2 fps2 y o2 st2 g2 q2 => ?_)⟩
    split at q2
    · rename_i hk
      obtain ⟨n2, d2, dp2, k1, k2, k3⟩ := okN_out hk
      obtain ⟨_, w0, hw0, own2, _⟩ := o2.peek k1
      rw [hv0] at hw0; cases hw0
      obtain ⟨v', hv'⟩ := nav_of_get k2 own2 k3
      obtain ⟨x', n1', n2'⟩ := Nav.snoc hv'
      obtain ⟨_, w1, hw1, own1, _⟩ := o1.peek e1
      rw [hv0] at hw1; cases hw1
      have nx2 : Nav H2 v0 ds x := Nav.mono e2 e3 own1 nx fun a ha ob hob => st2.stp.keep a ob hob (o1.nF i a ha)
      have ex : x' = x := Nav.inj n1' nx2
      subst ex
      cases n2' with
      | @lst a' vs i' v1 _ _ ha hat hnil =>
        cases hnil
        obtain ⟨fp, ow, _⟩ := g2.own
        have hy := (Own.of0 ow).1
        unfold Val at hy
        subst hy
        exact ⟨a', vs, i', v', rfl, rfl, SqL.of ha, hat, q2 H2 G2 fps2 o2 st2 v0 v' hv0 hv'⟩
    · exact False.elim q2
theorem nav_own {K : PySem.W.Frag} {w : World} {C : Str → Addr} {H : Hp} {G : Gs} : ∀ {ds : List D} {d : D} {n : Nat} {v : V} {fp : List Addr} {dp : D}, ds.length < n → Own K w C H G d n v fp → getP ds d = some dp → ∃ v' fp', Nav H v ds v' ∧ Own K w C H G dp (n - ds.length) v' fp' ∧ ∀ a ∈ fp', a ∈ fp
  | [], d, n, v, fp, dp, _, h, e => by cases e; exact ⟨v, fp, .nil v, h, fun _ h => h⟩
  | i :: ds, d, n, v, fp, dp, hn, h, e => by
    obtain ⟨n, rfl⟩ : ∃ m, n = m + 1 := ⟨n - 1, by simp at hn; omega⟩
    cases d with
    | lst xs =>
      unfold getP at e
      obtain ⟨x, ex, eg⟩ := Option.bind_eq_some_iff.mp e
      cases i with
      | int i =>
        simp only [D.getI] at ex
        obtain ⟨j, e1, e2⟩ := Option.bind_eq_some_iff.mp ex
        unfold Own at h
        obtain ⟨a, vs, fps, rfl, ha, ho, rfl⟩ := h
        obtain ⟨v1, f1, f2, k1, k2, k3, _⟩ := Owns.nth ho e2
        obtain ⟨v', fp', hv', ow, hs⟩ := nav_own (by simp at hn; omega) k2 eg
        have hl : n + 1 - (D.int i :: ds).length = n - ds.length := by simp
        rw [hl]
        refine ⟨v', fp', .lst ha ?_ hv', ow, fun a ha => List.mem_cons_of_mem _ (k3.mem_iff.mpr (List.mem_append_left _ (hs a ha)))⟩
        unfold atI
        rw [Owns.length ho, ← ixP_eq, e1]
        exact k1
      | _ => simp [D.getI] at ex
    | _ => simp [getP] at e
theorem okL_out {acc : List D} (h : okL i acc s = true) : ∃ n d ys, s.env[i]? = some (.ow n d) ∧ acc.length < n ∧ getP acc d = some (.lst ys) := by
  unfold okL at h
  split at h
  · rename_i nd e
    rw [Bool.and_eq_true, decide_eq_true_eq] at h
    obtain ⟨h1, h2⟩ := h
    split at h2
    · rename_i ys hd
      exact ⟨nd.1, nd.2, ys, own?_some e, h1, hd⟩
    · cases h2
  · cases h
/-- the list at a place -/
theorem okL_at (o : M.Ok σ H s fps G) {acc : List D} (h : okL i acc s = true) {v0 ov : V} (hv0 : σ[i]? = some (some v0)) (nav : Nav H v0 acc ov) : ∃ p us, ov = .ref p ∧ H p = some (.lst us) := by
  obtain ⟨n, d, ys, e1, e2, e3⟩ := okL_out h
  obtain ⟨_, w0, hw, own, _⟩ := o.peek e1
  rw [hv0] at hw; cases hw
  obtain ⟨v', fp', n', ow, _⟩ := nav_own e2 own e3
  have := Nav.inj nav n'
  subst this
  obtain ⟨m, hm⟩ : ∃ m, n - acc.length = m + 1 := ⟨n - acc.length - 1, by omega⟩
  rw [hm] at ow
  unfold Own at ow
  obtain ⟨p, us, _, rfl, hp, _, _⟩ := ow
  exact ⟨p, us, rfl, hp⟩
end
end Hx
namespace Hx
open PySem PySem.Spec PyProof.Rows L2
section
variable {M : Md} {rn : Nat} {Dn : Ends} {σ : L2.St} {H H1 H3 : Hp} {G G1 G3 : Gs} {fps fps1 fps3 : Nat → List Addr} {s s1 s3 : St} {e a b c : E} {i : Nat}
/-- a temporary, owned to the depth m, later on -/
theorem Got.tmp {n m : Nat} {d : D} {v : V} (g : Got M.X.K M.X.w M.C 0 n H H1 G1 fps1 d v) (hm : m ≤ n) (o : M.Ok σ H s fps G) (o1 : M.Ok σ H1 s1 fps1 G1) (sv : Stv H1 G1 fps1 H3 G3 fps3) (st : Stv H G fps H1 G1 fps1) (o3 : M.Ok σ H3 s3 fps3 G3) :
    ∃ G' fp, M.Ok σ H3 s3 fps3 G' ∧ Sty H3 G3 H3 G' ∧ Own M.X.K M.X.w M.C H3 G' d m v fp ∧ fp.Nodup ∧ ∀ a ∈ fp, M.H0 a = none ∧ ¬ G'.Z a ∧ ¬ G'.F a ∧ ∀ j, a ∉ fps3 j := by
  obtain ⟨fp, ow, fr⟩ := g.own
  have ow3 := ow.mono sv.stp o1.gi fr.nF
  have fr3 := fr.step ow.live sv
  obtain ⟨f1, f2, e, ow'⟩ := Own.cut d m n v fp hm ow3 fr3.nF
  obtain ⟨c1, c2⟩ := fr3.cut e
  have hl : ∀ a ∈ f2, H3 a ≠ none := fun x hx => ow3.live x (e.mem_iff.mpr (List.mem_append_right _ hx))
  obtain ⟨o4, _⟩ := o3.cool c2 (st.trans sv o1.gi) hl o.none0
  exact ⟨_, f1, o4, cool_sty, ow', c1.nd, fun a ha => ⟨o.none0 a (c1.new a ha), c1.nz a ha, c1.nF a ha, fun j => c1.dj j a ha⟩⟩
theorem chg_out {p : List D} {m : Nat} {f : D → Option D} {k : Unit → St → Res Flow} (h : RdS M rn Dn H G ((chg i p m f s).bind k)) :
    ∃ n d d', s.env[i]? = some (.ow n d) ∧ p.length < n ∧ n ≤ p.length + 1 + m ∧ updP f p d = some d' ∧ RdS M rn Dn H G (k () { s with env := s.env.set i (.ow n d') }) := by
  unfold chg at h
  cases e : Sl.own? s.env[i]? with
  | none => rw [e] at h; exact False.elim h
  | some nd =>
    rw [e] at h
    have h : RdS M rn Dn H G ((if p.length < nd.1 ∧ nd.1 ≤ p.length + 1 + m then (opt (updP f p nd.2) s).bind fun d s => Res.ok () { s with env := s.env.set i (.ow nd.1 d) } else .stuck).bind k) := h
    by_cases hn : p.length < nd.1 ∧ nd.1 ≤ p.length + 1 + m
    · rw [if_pos hn] at h
      cases e2 : updP f p nd.2 with
      | none => rw [e2] at h; exact False.elim h
      | some d' =>
        rw [e2] at h
        exact ⟨nd.1, nd.2, d', own?_some e, hn.1, hn.2, e2, h⟩
    · rw [if_neg hn] at h
      exact False.elim h
theorem setI_lst {k x : D} : ∀ y z, (fun d : D => d.setI k x) y = some z → (∃ xs, y = .lst xs) ∧ ∃ ys, z = .lst ys := by
  intro y z h
  cases y with
  | lst ys =>
    cases k with
    | int i =>
      obtain ⟨j, _, rfl⟩ := Option.map_eq_some_iff.mp (show (ixP ys.length i).map (fun j => D.lst (ys.set j x)) = some z from h)
      exact ⟨⟨_, rfl⟩, ⟨_, rfl⟩⟩
    | _ => cases h
  | _ => cases h
theorem s_setp {l : List E} (h : rdS M rn (.setp i (E.ofL l) b e) Dn σ H) : tAsg (rdE M e 0) (gSub (rdN M i l) (rdE M b 0) rSetL) Dn σ H := by
  obtain ⟨s, fps, G, o, q⟩ := h
  unfold ex at q
  refine ⟨s, fps, G, o, RdG.toE (RdS.bindE o q) fun dx s1 H1 G1 fps1 x o1 st1 gx q1 => ⟨s1, fps1, G1, o1, (RdS.bindE o1 q1).imp fun ds s2 H2 G2 fps2 hr o2 st2 q2 v0 ov hv0 nav => ?_⟩⟩
  refine ⟨s2, fps2, G2, o2, RdG.less (Nat.zero_le _) o2 ((RdS.bindE o2 q2).toE (n := 0) fun k s3 H3 G3 fps3 kv o3 st3 gk q3 => ?_)⟩
  obtain ⟨n, d, d', hn, hp, hm, hu, q4⟩ := chg_out q3
  obtain ⟨w0, p, us, ys, zs, m, fys, hw0, hnm, hg, hf, hnav, hb, hbi, hbf, hsub, hnd, hos, fin⟩ := o3.chg hn hp hu setI_lst
  rw [hv0] at hw0; cases hw0
  -- the place
  obtain ⟨n2, d2, dp2, k1, k2, k3⟩ := okN_out (evN_ok _ _ _ _ _ hr)
  obtain ⟨_, w1, hw1, own2, _⟩ := o2.peek k1
  rw [hv0] at hw1; cases hw1
  have nav3 : Nav H3 v0 ds ov := Nav.mono k2 k3 own2 nav fun a ha ob hob => st3.stp.keep a ob hob (o2.nF i a ha)
  have eo : ov = .ref p := Nav.inj nav3 hnav
  subst eo
  -- the index
  cases k with
  | int ki =>
    obtain ⟨j, ej, ezs⟩ := Option.map_eq_some_iff.mp (show (ixP ys.length ki).map (fun j => D.lst (ys.set j dx)) = some (.lst zs) from hf)
    cases ezs
    obtain ⟨fk, owk, _⟩ := gk.own
    have hk := (Own.of0 owk).1
    unfold Val at hk
    subst hk
    obtain ⟨G', fx, oG, sG, owx, ndx, hfx⟩ := gx.tmp (m := m) (by omega) o o1 (st2.trans st3 o2.gi) st1 o3
    have hj : j < ys.length := by
      have := ixP_eq ys.length ki
      rw [ej] at this
      exact (ixN_seq this.symm).2.1
    obtain ⟨vj, f1, f2, e1, e2, e3, e4⟩ := Owns.nth hos (List.getElem?_eq_getElem hj)
    have hpz : ¬ G'.Z p := oG.nz i p hbi
    have styU : Sty H3 G' (upd H3 p (.lst (us.set j x))) G' := ⟨poke_hk hb trivial hpz, fun _ z => z, fun _ q => .inl q, fun _ q => q, fun a ha => by
      by_cases e : a = p
      · subst e; rw [upd_same] at ha; cases ha
      · rw [upd_ne e] at ha; exact ha⟩
    have hpx : p ∉ fx := fun z => (hfx p z).2.2.2 i hbi
    have ndf : (f1 ++ f2).Nodup := e3.nodup_iff.mp hnd
    obtain ⟨fz, z1, z2⟩ := e4 (upd H3 p (.lst (us.set j x))) G' dx x fx (fun a ha ob hob => by
      rw [upd_ne (fun e : a = p => hbf (by rw [← e]; exact e3.mem_iff.mpr (List.mem_append_right _ ha)))]; exact hob) (sG.trans styU) (owx.poke hb trivial hpz hpx)
    have ndz : fz.Nodup := by
      rw [z2.nodup_iff, List.nodup_append]
      refine ⟨ndx, (List.nodup_append.mp ndf).2.1, fun a ha c hc e => ?_⟩
      subst e
      exact (hfx a ha).2.2.2 i (hsub a (e3.mem_iff.mpr (List.mem_append_right _ hc)))
    obtain ⟨fps', oF, sF, _⟩ := fin G' (us.set j x) fz oG sG z1 ndz (fun a ha => by
      rcases List.mem_append.mp (z2.mem_iff.mp ha) with q | q
      · exact .inr (hfx a q)
      · exact .inl (e3.mem_iff.mpr (List.mem_append_right _ q)))
    refine ⟨p, us, ki, j, rfl, rfl, hb, by rw [Owns.length hos, ← ixP_eq]; exact ej, q4 σ _ G' fps' oF sF⟩
  | _ => cases hf
theorem appD_lst {x : D} : ∀ y z, appD x y = some z → (∃ xs, y = .lst xs) ∧ ∃ ys, z = .lst ys := by
  intro y z h
  unfold appD at h
  split at h
  · split at h
    · cases h; exact ⟨⟨_, rfl⟩, ⟨_, rfl⟩⟩
    · cases h
  · cases h
theorem s_app {l : List E} (h : rdS M rn (.app i (E.ofL l) e) Dn σ H) : tDrop (tBM M.X.K "list" rAppend (rdN M i l) (tCons (rdE M e 0) tNil)) Dn σ H := by
  obtain ⟨s, fps, G, o, q⟩ := h
  unfold ex at q
  refine ⟨s, fps, G, o, (RdS.bindE o q).imp fun ds s1 H1 G1 fps1 hr o1 st1 q1 v0 ov hv0 nav => ?_⟩
  by_cases hk : okL i ds s1 = true
  · rw [if_pos hk] at q1
    obtain ⟨p1, us1, rfl, hp1⟩ := okL_at o1 hk hv0 nav
    refine ⟨.inl ⟨rfl, us1, SqL.of hp1⟩, s1, fps1, G1, o1, RdG.toE (RdS.bindE o1 q1) fun dx s2 H2 G2 fps2 x o2 st2 gx q2 => ?_⟩
    obtain ⟨n, d, d', hn, hp, hm, hu, q4⟩ := chg_out q2
    obtain ⟨w0, p, us, ys, zs, m, fys, hw0, hnm, hg, hf, hnav, hb, hbi, hbf, hsub, hnd, hos, fin⟩ := o2.chg hn hp hu appD_lst
    rw [hv0] at hw0; cases hw0
    obtain ⟨n2, d2, ys2, k1, k2, k3⟩ := okL_out hk
    obtain ⟨_, w1, hw1, own1, _⟩ := o1.peek k1
    rw [hv0] at hw1; cases hw1
    have nav2 : Nav H2 v0 ds (.ref p1) := Nav.mono k2 k3 own1 nav fun a ha ob hob => st2.stp.keep a ob hob (o1.nF i a ha)
    cases Nav.inj nav2 hnav
    unfold appD at hf
    simp only at hf
    split at hf
    · rename_i hl
      cases hf
      obtain ⟨G', fx, oG, sG, owx, ndx, hfx⟩ := gx.tmp (m := m) (by omega) o1 o2 .refl st2 o2
      have hpz : ¬ G'.Z p1 := oG.nz i p1 hbi
      have hpx : p1 ∉ fx := fun z => (hfx p1 z).2.2.2 i hbi
      have ow2 := (Owns.gen (up := False) sG.keep sG.zz sG.fn sG.tt _ _ _ _ hos (fun _ _ _ h => h) : Own.Owns M.X.K M.X.w M.C H2 G' ys m us fys)
      have owz := Owns.snoc (owx.poke (o' := .lst (us ++ [x])) hb trivial hpz hpx) (Owns.poke (o' := .lst (us ++ [x])) hb trivial hpz hbf ow2)
      obtain ⟨fps', oF, sF, _⟩ := fin G' (us ++ [x]) (fys ++ fx) oG sG owz (List.nodup_append.mpr ⟨hnd, ndx, fun a ha c hc e => by subst e; exact (hfx a hc).2.2.2 i (hsub a ha)⟩) (fun a ha => by
        rcases List.mem_append.mp ha with q | q
        · exact .inl q
        · exact .inr (hfx a q))
      refine ⟨p1, us, x, rfl, rfl, hb, ?_, q4 σ _ G' fps' oF sF⟩
      rw [Owns.length hos]
      exact hl
    · cases hf
  · rw [if_neg hk] at q1
    exact False.elim q1
theorem Ok.coolZ (o : M.Ok σ H s fps G) {fp : List Addr} (hf : ∀ a ∈ fp, H a ≠ none ∧ M.H0 a = none ∧ ¬ G.F a ∧ ∀ j, a ∉ fps j) : M.Ok σ H s fps (G.cool fp) := by
  have s1 : Stp H G H (G.cool fp) := .grow (fun _ _ h => h) (fun a z => Or.inl z) rfl rfl
  refine ⟨⟨fun a z => ?_, fun a z => ?_, o.gi.fl⟩, ?_, ⟨o.er.len, fun i sl x h1 h2 => (o.er.at_ i sl x h1 h2).mono s1 o.gi (o.nF i), o.er.out⟩, o.nd, o.dj, fun i a ha z => ?_, o.nF, o.base.trans s1, fun a z => ?_, o.nb⟩
  · rcases z with z | z
    · exact o.gi.zf a z
    · exact (hf a z).2.2.1
  · rcases z with z | z
    · exact o.gi.zh a z
    · exact (hf a z).1
  · have wr := o.wr
    cases hw : s.w with
    | none => rw [hw] at wr; exact wr
    | some p => rw [hw] at wr; exact wr
  · rcases z with z | z
    · exact o.nz i a ha z
    · exact (hf a z).2.2.2 i ha
  · rcases z with z | z
    · exact o.zb a z
    · exact .inr (hf a z).2.1
/-- which item a pop takes -/
def popAt (jh : Option Hx.D) (n : Nat) : Option Nat := match jh with
  | none => if 0 < n then some (n - 1) else none
  | some (.int i) => if decide (-(2 ^ 62) ≤ i) && decide (i < 2 ^ 62) then ixP n i else none
  | _ => none
theorem popD_lst {jh : Option Hx.D} {ys : List Hx.D} {x r : Hx.D} (h : popD jh (.lst ys) = some (x, r)) : ∃ k, popAt jh ys.length = some k ∧ ys[k]? = some x ∧ r = .lst (ys.eraseIdx k) := by
  cases jh with
  | none =>
    obtain ⟨z, hz, e⟩ := Option.map_eq_some_iff.mp (show (ys[ys.length - 1]?).map (fun x => (x, Hx.D.lst (ys.eraseIdx (ys.length - 1)))) = some (x, r) from h)
    cases e
    have := (List.getElem?_eq_some_iff.mp hz).1
    refine ⟨ys.length - 1, ?_, hz, rfl⟩
    unfold popAt
    simp only
    rw [if_pos (by omega)]
  | some j =>
    cases j with
    | int i =>
      have h : (if decide (-(2 ^ 62) ≤ i) && decide (i < 2 ^ 62) then (ixP ys.length i).bind (fun j => (ys[j]?).map fun x => (x, Hx.D.lst (ys.eraseIdx j))) else none) = some (x, r) := h
      by_cases hc : (decide (-(2 ^ 62) ≤ i) && decide (i < 2 ^ 62)) = true
      · rw [if_pos hc] at h
        obtain ⟨k, hk, h2⟩ := Option.bind_eq_some_iff.mp h
        obtain ⟨z, hz, e⟩ := Option.map_eq_some_iff.mp h2
        cases e
        exact ⟨k, by show (if _ then _ else _) = _; rw [if_pos hc]; exact hk, hz, rfl⟩
      · rw [if_neg hc] at h; cases h
    | _ => cases h
theorem popD_lst' {jh : Option Hx.D} : ∀ y z, (fun d => (popD jh d).map (·.2)) y = some z → (∃ xs, y = .lst xs) ∧ ∃ ys, z = .lst ys := by
  intro y z h
  obtain ⟨⟨x, r⟩, hp, e⟩ := Option.map_eq_some_iff.mp h
  cases e
  cases y with
  | lst ys => obtain ⟨k, _, _, e⟩ := popD_lst hp; exact ⟨⟨_, rfl⟩, ⟨_, e⟩⟩
  | _ => cases jh <;> simp [popD] at hp
/-- behind a pop's arguments -/
theorem pop_core {t : Tg} {jh : Option Hx.D} {ds : List Hx.D} {s1 : St} (o1 : M.Ok σ H1 s1 fps1 G1) (o : M.Ok σ H s fps G) (sv : Stv H G fps H1 G1 fps1) (hk : okL i ds s = true) {v0 : V} {p : Addr} (hv0 : σ[i]? = some (some v0)) (nav : Nav H v0 ds (.ref p))
    (q : RdS M rn Dn H1 G1 ((opt (Sl.own? s1.env[i]?) s1).bind fun nd s => if ds.length < nd.1 then
      (opt ((getP ds nd.2).bind (popD jh)) s).bind fun xr s =>
      (opt (updP (fun d => (popD jh d).map (·.2)) ds nd.2) s).bind fun d s => (opt (stTg t xr.1 (s.env.set i (.ow nd.1 d))) s).bind fun env s => Res.ok .nx { s with env := env } else .stuck)) :
    ∃ us k y, H1 p = some (.lst us) ∧ popAt jh us.length = some k ∧ us[k]? = some y ∧ rdG M t y σ (upd H1 p (.lst (us.eraseIdx k))) Dn.nx := by
  cases e : Sl.own? s1.env[i]? with
  | none => rw [e] at q; exact False.elim q
  | some nd =>
    rw [e] at q
    have q : RdS M rn Dn H1 G1 (if ds.length < nd.1 then
      (opt ((getP ds nd.2).bind (popD jh)) s1).bind fun xr s =>
      (opt (updP (fun d => (popD jh d).map (·.2)) ds nd.2) s).bind fun d s => (opt (stTg t xr.1 (s.env.set i (.ow nd.1 d))) s).bind fun env s => Res.ok .nx { s with env := env } else .stuck) := q
    by_cases hp : ds.length < nd.1
    · rw [if_pos hp] at q
      have hn := own?_some e
      cases eg : (getP ds nd.2).bind (popD jh) with
      | none => rw [eg] at q; exact False.elim q
      | some xr =>
        obtain ⟨x, r⟩ := xr
        rw [eg] at q
        have q : RdS M rn Dn H1 G1 ((opt (updP (fun d => (popD jh d).map (·.2)) ds nd.2) s1).bind fun d s => (opt (stTg t x (s.env.set i (.ow nd.1 d))) s).bind fun env s => Res.ok .nx { s with env := env }) := q
        cases eu : updP (fun d => (popD jh d).map (·.2)) ds nd.2 with
        | none => rw [eu] at q; exact False.elim q
        | some d' =>
          rw [eu] at q
          have q : RdS M rn Dn H1 G1 ((opt (stTg t x (s1.env.set i (.ow nd.1 d'))) s1).bind fun env s => Res.ok .nx { s with env := env }) := q
          cases es : stTg t x (s1.env.set i (.ow nd.1 d')) with
          | none => rw [es] at q; exact False.elim q
          | some env' =>
            rw [es] at q
            have q5 : RdS M rn Dn H1 G1 (.ok .nx { s1 with env := env' }) := q
            obtain ⟨w0, b, us, ys, zs, m, fys, hw0, hnm, hg, hf, hnav, hb, hbi, hbf, hsub, hnd, hos, fin⟩ := o1.chg hn hp eu popD_lst'
            rw [hv0] at hw0; cases hw0
            obtain ⟨n2, d2, ys2, k1, k2, k3⟩ := okL_out hk
            obtain ⟨_, w1, hw1, own1, _⟩ := o.peek k1
            rw [hv0] at hw1; cases hw1
            have nav2 : Nav H1 v0 ds (.ref p) := Nav.mono k2 k3 own1 nav fun a ha ob hob => sv.stp.keep a ob hob (o.nF i a ha)
            cases Nav.inj nav2 hnav
            rw [hg] at eg
            have eg : popD jh (.lst ys) = some (x, r) := eg
            obtain ⟨k, hk1, hk2, rfl⟩ := popD_lst eg
            have hz : (popD jh (.lst ys)).map (·.2) = some (.lst zs) := hf
            rw [eg] at hz
            cases hz
            obtain ⟨y, f1, f2, e1, e2, e3, e4⟩ := Owns.erase hos hk2
            have ndf := List.nodup_append.mp (e3.nodup_iff.mp hnd)
            have hpz : ¬ G1.Z p := o1.nz i p hbi
            obtain ⟨fps', oF, sF, hx⟩ := fin G1 (us.eraseIdx k) f2 o1 .refl (Owns.poke hb trivial hpz (fun z => hbf (e3.mem_iff.mpr (List.mem_append_right _ z))) e4) ndf.2.1 (fun a ha => .inl (e3.mem_iff.mpr (List.mem_append_right _ ha)))
            have own1' := e2.poke (o' := .lst (us.eraseIdx k)) hb trivial hpz (fun z => hbf (e3.mem_iff.mpr (List.mem_append_left _ z)))
            have hf1 : ∀ a ∈ f1, a ∈ fys := fun a ha => e3.mem_iff.mpr (List.mem_append_left _ ha)
            have oC := oF.coolZ (fp := f1) fun a ha => ⟨own1'.live a ha, o1.nb i a (hsub a (hf1 a ha)), o1.nF i a (hsub a (hf1 a ha)), hx a (hf1 a ha) fun z => ndf.2.2 a ha a z rfl⟩
            have hval := Own.freeze _ _ _ _ own1' fun a ha => o1.nF i a (hsub a (hf1 a ha))
            refine ⟨us, k, y, hb, by rw [Owns.length hos]; exact hk1, e1, _, fps', _, x, env', oC, hval, es, fun σ' fps2 o' sv' ag => q5 σ' _ _ fps2 o' (sF.trans cool_sty)⟩
    · rw [if_neg hp] at q
      exact False.elim q
end
end Hx
namespace Hx
open PySem PySem.Spec PyProof.Rows L2
section
variable {M : Md} {rn : Nat} {Dn : Ends} {σ : L2.St} {H H1 H3 : Hp} {G G1 G3 : Gs} {fps fps1 fps3 : Nat → List Addr} {s s1 s3 : St} {e a b c : E} {i : Nat}
theorem Res.assoc {α β γ : Type} (r : Res α) (f : α → St → Res β) (g : β → St → Res γ) : (r.bind f).bind g = r.bind fun a s => (f a s).bind g := by cases r <;> rfl
theorem seqIx (n : Nat) (i : Int) : seqIndex? i n = ixP n i := by
  unfold seqIndex? ixP
  by_cases h : 0 ≤ i
  · rw [if_pos h]
    by_cases h2 : i.toNat < n
    · rw [if_pos h2]; simp only []; rw [if_neg (by omega : ¬ i < 0), if_pos (by simp; omega)]
    · rw [if_neg h2]; simp only []; rw [if_neg (by omega : ¬ i < 0), if_neg (by simp; omega)]
  · rw [if_neg h]
    by_cases h2 : 0 ≤ i + n
    · rw [if_pos h2]; simp only []; rw [if_pos (by omega : i < 0), if_pos (by simp; omega)]
    · rw [if_neg h2]; simp only []; rw [if_pos (by omega : i < 0), if_neg (by simp; omega)]
theorem s_pop0 {t : Tg} {l : List E} (h : rdS M rn (.pop t i (E.ofL l) .nil) Dn σ H) : tAsg (tBM0 M.X.K "list" rPop (rdN M i l)) (rdG M t) Dn σ H := by
  obtain ⟨s, fps, G, o, q⟩ := h
  unfold ex at q
  refine ⟨s, fps, G, o, (RdS.bindE o q).imp fun ds s1 H1 G1 fps1 hr o1 st1 q1 v0 ov hv0 nav => ?_⟩
  by_cases hk : okL i ds s1 = true
  · rw [if_pos hk] at q1
    obtain ⟨p1, us1, rfl, hp1⟩ := okL_at o1 hk hv0 nav
    unfold evA at q1
    obtain ⟨us, k, y, hb, hkk, hy, hg⟩ := pop_core o1 o1 .refl hk hv0 nav q1
    refine ⟨.inl ⟨rfl, us1, SqL.of hp1⟩, p1, us, y, rfl, rfl, hb, ?_⟩
    have hkk : (if 0 < us.length then some (us.length - 1) else none) = some k := hkk
    by_cases hl : 0 < us.length
    · rw [if_pos hl] at hkk
      have hkk := Option.some.inj hkk
      subst hkk
      refine ⟨hy, ?_⟩
      rw [← PyProof.Rows.Copied.eraseIdx_last]
      exact hg
    · rw [if_neg hl] at hkk; cases hkk
  · rw [if_neg hk] at q1
    exact False.elim q1
theorem s_pop1 {t : Tg} {l : List E} (h : rdS M rn (.pop t i (E.ofL l) (.cons b .nil)) Dn σ H) : tAsg (tBM M.X.K "list" rPopAt (rdN M i l) (tCons (rdE M b 0) tNil)) (rdG M t) Dn σ H := by
  obtain ⟨s, fps, G, o, q⟩ := h
  unfold ex at q
  refine ⟨s, fps, G, o, (RdS.bindE o q).imp fun ds s1 H1 G1 fps1 hr o1 st1 q1 v0 ov hv0 nav => ?_⟩
  by_cases hk : okL i ds s1 = true
  · rw [if_pos hk] at q1
    obtain ⟨p1, us1, rfl, hp1⟩ := okL_at o1 hk hv0 nav
    unfold evA evA at q1
    refine ⟨.inl ⟨rfl, us1, SqL.of hp1⟩, s1, fps1, G1, o1, RdG.less (Nat.zero_le _) o1 (RdG.toE (n := 0) (RdS.bindE o1 (by rw [Res.assoc] at q1; exact q1)) fun dx s2 H2 G2 fps2 x o2 st2 gx q2 => ?_)⟩
    obtain ⟨us, k, y, hb, hkk, hy, hg⟩ := pop_core o2 o1 st2 hk hv0 nav q2
    unfold popAt at hkk
    simp only [List.head?_cons] at hkk
    split at hkk
    · rename_i e; cases e
    · rename_i ki e
      cases e
      by_cases hc : (decide (-(2 ^ 62) ≤ ki) && decide (ki < 2 ^ 62)) = true
      · rw [if_pos hc] at hkk
        simp only [Bool.and_eq_true, decide_eq_true_eq] at hc
        obtain ⟨fk, owk, _⟩ := gx.own
        have hk := (Own.of0 owk).1
        unfold Val at hk
        subst hk
        exact ⟨p1, us, ki, k, y, rfl, rfl, hb, by omega, by omega, by rw [seqIx]; exact hkk, hy, hg⟩
      · rw [if_neg hc] at hkk; cases hkk
    · cases hkk
  · rw [if_neg hk] at q1
    exact False.elim q1
theorem g_dr {v : V} {Q : L2.St → Hp → Prop} (h : rdG M .dr v σ H Q) : Q σ H := by
  obtain ⟨s, fps, G, d, env', o, hv, hs, q⟩ := h
  cases hs
  exact q σ fps o .refl .refl
def rIp (K : PySem.W.Frag) (w : World) (C : Str → Addr) (o : Bop) : V → V → Hp → VK → Prop := fun x y H Q => ∃ G d1 d2 z, Val K w C H G d1 0 x ∧ Val K w C H G d2 1 y ∧ ipD o d1 d2 = some z ∧ ∀ v, Val K w C H G z 0 v → Q v H
theorem ipBin {X : Cx} {C : Str → Addr} (o : Bop) : PIp X (bopPy o) (rIp X.K X.w C o) := by
  intro pins s σ H x y v u Q I rx ry h
  obtain ⟨G, d1, d2, z, h1, h2, hb, q⟩ := h
  unfold ipD at hb
  split at hb
  · cases hb
    unfold Val at h1 h2; subst h1 h2
    exact iop_add pins s σ H _ _ v u Q I rx ry ⟨_, _, rfl, rfl, q _ (by unfold Val; rfl)⟩
  · split at hb
    · rename_i hz
      cases hb
      unfold Val at h1 h2; subst h1 h2
      exact iop_add_str pins s σ H _ _ v u Q I rx ry ⟨_, _, rfl, rfl, hz, q _ (by unfold Val; rfl)⟩
    · cases hb
  · cases hb
    unfold Val at h1 h2; subst h1 h2
    exact iop_sub pins s σ H _ _ v u Q I rx ry ⟨_, _, rfl, rfl, q _ (by unfold Val; rfl)⟩
  · split at hb
    · rename_i hz
      cases hb
      unfold Val at h1 h2; subst h1 h2
      refine iop_mul pins s σ H _ _ v u Q I rx ry ⟨_, _, rfl, rfl, ?_, q _ (by unfold Val; rfl)⟩
      rw [Bool.or_eq_true] at hz
      exact hz.imp smallI smallI
    · cases hb
  · split at hb
    · rename_i hz
      cases hb
      unfold Val at h1 h2; subst h1 h2
      exact iop_fdiv pins s σ H _ _ v u Q I rx ry ⟨_, _, rfl, rfl, hz, q _ (by unfold Val; rfl)⟩
    · cases hb
  · split at hb
    · rename_i hz
      cases hb
      unfold Val at h1 h2; subst h1 h2
      exact iop_mod pins s σ H _ _ v u Q I rx ry ⟨_, _, rfl, rfl, hz, q _ (by unfold Val; rfl)⟩
    · cases hb
  · cases hb
theorem s_aug {op : Bop} (h : rdS M rn (.aug i op e) Dn σ H) : tAug i (rdE M e 1) (rIp M.X.K M.X.w M.C op) Dn σ H := by
  obtain ⟨s, fps, G, o, q⟩ := h
  unfold ex at q
  cases ei : s.env[i]? with
  | none => rw [ei] at q; exact False.elim q
  | some sl =>
    rw [ei] at q
    cases sl with
    | fz d =>
      have q : RdS M rn Dn H G ((ev M.sem e 1 s).bind fun x s => (opt (ipD op d x) s).bind fun z s => .ok .nx { s with env := s.env.set i (.fz z) }) := q
      obtain ⟨v, hv, hd⟩ := o.look ei
      refine ⟨v, hv, s, fps, G, o, RdG.toE (RdS.bindE o q) fun dx s1 H1 G1 fps1 x o1 st1 gx q1 => ?_⟩
      cases ez : ipD op d dx with
      | none => rw [ez] at q1; exact False.elim q1
      | some z =>
        rw [ez] at q1
        have q1 : RdS M rn Dn H1 G1 (.ok .nx { s1 with env := s1.env.set i (.fz z) }) := q1
        refine ⟨G1, d, dx, z, hd.mono st1.stp o.gi, gx.look (by omega), ez, fun w hw => ?_⟩
        obtain ⟨o2, st2⟩ := o1.store (i := i) hw
        exact q1 _ _ _ _ o2 (st2.stp.sty o1.gi o2.gi)
    | _ => exact False.elim q
theorem RdG.toA {K : PySem.W.Frag} {w : World} {C : Str → Addr} {H0 : Hp} {G0 : Gs} {W : WX} {Q : List V → Hp → Prop} {ok : List D → St → Hp → Gs → (Nat → List Addr) → Prop} {n : Nat} {r : Res (List D)} (h : RdG K w C H0 G0 σ W H G fps ok r)
    (f : ∀ d s1 H1 G1 fps1 v fp, Hx.Ok K w C H0 G0 σ H1 s1 fps1 G1 → Stv H G fps H1 G1 fps1 → Own.Owns K w C H1 G1 d n v fp → Fresh H G1 fps1 fp → ok d s1 H1 G1 fps1 → Q v H1) : RdA K w C H0 G0 σ W n H G fps Q r :=
  h.imp fun d s1 H1 G1 fps1 _ o st q v fp a b => f d s1 H1 G1 fps1 v fp o st a b q
theorem s_par {n j m : Nat} (h : rdS M rn (.par i n j m a b) Dn σ H) : tPar i j (rdA M (.cons a (.cons b .nil)) (if n ≤ dep M.rd a ∧ n ≤ dep M.rd b then n else 0)) Dn σ H := by
  obtain ⟨s, fps, G, o, q⟩ := h
  unfold ex at q
  refine ⟨s, fps, G, o, RdG.toA (RdS.bindE o q) fun ds s1 H1 G1 fps1 vs fp o1 st1 ow fr q1 => ?_⟩
  split at q1
  · rename_i x y
    by_cases hc : n ≤ dep M.rd a ∧ n ≤ dep M.rd b ∧ n = m
    · rw [if_pos hc] at q1
      rw [if_pos ⟨hc.1, hc.2.1⟩] at ow
      unfold Own.Owns at ow
      obtain ⟨v, r, f1, f2, rfl, h1, h2, rfl⟩ := ow
      unfold Own.Owns at h2
      obtain ⟨w, r2, f3, f4, rfl, h3, h4, rfl⟩ := h2
      unfold Own.Owns at h4
      obtain ⟨rfl, rfl⟩ := h4
      refine ⟨v, w, rfl, ?_⟩
      by_cases hn : n = 0
      · subst hn
        simp only [if_true] at q1
        obtain ⟨o2, st2⟩ := o1.store (i := i) (Own.of0 h1).1
        obtain ⟨o3, st3⟩ := o2.store (i := j) (Own.of0 h3).1
        exact q1 _ _ _ _ o3 ((st2.trans st3 o1.gi).stp.sty o1.gi o3.gi)
      · simp only [if_neg hn] at q1
        rw [List.append_nil] at fr
        have nd := List.nodup_append.mp fr.nd
        have hf : ∀ a ∈ f1 ++ f3, M.H0 a = none ∧ ¬ G1.Z a ∧ ¬ G1.F a ∧ ∀ j, a ∉ fps1 j := fun a ha => ⟨o.none0 a (fr.new a ha), fr.nz a ha, fr.nF a ha, fun j => fr.dj j a ha⟩
        have o2 := o1.storeO (i := i) (Nat.pos_of_ne_zero hn) h1 nd.1 fun a ha => hf a (List.mem_append_left _ ha)
        have o3 := o2.storeO (i := j) (Nat.pos_of_ne_zero hn) h3 nd.2.1 fun a ha => by
          obtain ⟨k1, k2, k3, k4⟩ := hf a (List.mem_append_right _ ha)
          refine ⟨k1, k2, k3, fun l z => ?_⟩
          by_cases hl : l = i
          · rw [hl, setF_self] at z
            split at z
            · exact nd.2.2 a z a ha rfl
            · exact nomatch z
          · rw [setF_ne hl] at z
            exact k4 l z
        exact q1 _ _ _ _ o3 .refl
    · rw [if_neg hc] at q1
      exact False.elim q1
  · exact False.elim q1
/-- raise of an exception without fields -/
theorem s_rai0 {c m : Str} (hf : fieldsOf c = []) (h : rdS M rn (.rai c (.cons (.cst (.str m)) .nil)) Dn σ H) : M.W (.ref (M.C c)) none σ H := by
  obtain ⟨s, fps, G, o, q⟩ := h
  unfold ex evA ev evA at q
  exact q σ H G fps none o .refl (by unfold XR; rw [if_pos hf])
end
end Hx
namespace Hx
open PySem PySem.Spec PyProof.Rows L2
theorem get_list {X : Cx} : PGet X (rIxL X.K) := by
  intro pins s σ H o i ov iv Q I ro ri h
  obtain ⟨p, xs, i, z, rfl, rfl, hq, he, q⟩ := h
  cases ro
  obtain ⟨t, rfl⟩ := ri
  obtain ⟨its, r, pl, hz⟩ := I.list hq
  obtain ⟨j, h1, h2, h3, h4, h5⟩ := atI_get he
  obtain ⟨w, ew, rw'⟩ := r.get h2
  have hl := r.length
  have hn := line63
  have fin : EP X pins σ Q w s := ⟨z, H, I, rw', q⟩
  by_cases h0 : 0 ≤ i
  · have hj : i.toNat = j := by
      rw [seqIndex_of h0 h5] at h1
      exact Option.some.inj h1
    exact wpAny_getItem_list pl.isList h0 (by omega) (by rw [hj]; simpa using ew) fin
  · have hj : (i + (its.toArray.size : Int)).toNat = j := by
      rw [seqIndex_neg (by omega) h4] at h1
      rw [List.size_toArray, ← hl]
      exact Option.some.inj h1
    exact wpAny_getItem_list_neg pl.isList (by omega) (by rw [List.size_toArray] <;> omega) (by omega) (by rw [hj]; simpa using ew) fin
section
variable {M : Md} {rn : Nat} {Dn : Ends} {σ : L2.St} {H H1 H3 : Hp} {G G1 G3 : Gs} {fps fps1 fps3 : Nat → List Addr} {s s1 s3 : St} {e a b c : E} {i : Nat}
theorem atN_out {acc : List D} {k y : D} (h : atN i acc k s = some y) : ∃ n d ys j, s.env[i]? = some (.ow n d) ∧ acc.length < n ∧ getP acc d = some (.lst ys) ∧ (∃ ki, k = .int ki ∧ ixP ys.length ki = some j) ∧ ys[j]? = some y ∧ ((∃ m, y = .int m) ∨ ∃ x, y = .str x) := by
  unfold atN at h
  split at h
  · rename_i nd e
    by_cases hp : acc.length < nd.1
    · rw [if_pos hp] at h
      obtain ⟨d, e1, h⟩ := Option.bind_eq_some_iff.mp h
      obtain ⟨y', e2, h⟩ := Option.bind_eq_some_iff.mp h
      have hd : ∃ ys, d = .lst ys ∧ y' = y ∧ ((∃ m, y = .int m) ∨ ∃ x, y = .str x) := by
        split at h
        · cases h; exact ⟨_, rfl, rfl, .inl ⟨_, rfl⟩⟩
        · cases h; exact ⟨_, rfl, rfl, .inr ⟨_, rfl⟩⟩
        · cases h
      obtain ⟨ys, rfl, rfl, hy⟩ := hd
      cases k with
      | int ki =>
        obtain ⟨j, e3, e4⟩ := Option.bind_eq_some_iff.mp (show (ixP ys.length ki).bind (fun j => ys[j]?) = some y' from e2)
        exact ⟨nd.1, nd.2, ys, j, own?_some e, hp, e1, ⟨ki, rfl, e3⟩, e4, hy⟩
      | _ => cases e2
    · rw [if_neg hp] at h; cases h
  · cases h
theorem ipD_sca {o : Bop} {a b z : D} (h : ipD o a b = some z) : (∃ m, z = .int m) ∨ ∃ x, z = .str x := by
  unfold ipD at h
  split at h
  · cases h; exact .inl ⟨_, rfl⟩
  · split at h
    · cases h; exact .inr ⟨_, rfl⟩
    · cases h
  · cases h; exact .inl ⟨_, rfl⟩
  · split at h
    · cases h; exact .inl ⟨_, rfl⟩
    · cases h
  · split at h
    · cases h; exact .inl ⟨_, rfl⟩
    · cases h
  · split at h
    · cases h; exact .inl ⟨_, rfl⟩
    · cases h
  · cases h
theorem s_augp {l : List E} {op : Bop} (h : rdS M rn (.augp i (E.ofL l) b op e) Dn σ H) : tAugS (rdN M i l) (rdE M b 0) (rdE M e 1) (rIxL M.X.K) (rIp M.X.K M.X.w M.C op) rSetL Dn σ H := by
  obtain ⟨s, fps, G, o, q⟩ := h
  unfold ex at q
  refine ⟨s, fps, G, o, (RdS.bindE o q).imp fun ds s1 H1 G1 fps1 hr o1 st1 q1 v0 ov hv0 nav => ?_⟩
  by_cases hk : okL i ds s1 = true
  · rw [if_pos hk] at q1
    refine ⟨s1, fps1, G1, o1, RdG.less (Nat.zero_le _) o1 ((RdS.bindE o1 q1).toE (n := 0) fun k s2 H2 G2 fps2 kv o2 st2 gk q2 => ?_)⟩
    cases ey : atN i ds k s2 with
    | none => rw [ey] at q2; exact False.elim q2
    | some y =>
    rw [ey] at q2
    have q2 : RdS M rn Dn H2 G2 ((ev M.sem e 1 s2).bind fun x s => (opt (ipD op y x) s).bind fun z s => (chg i ds 99 (fun d => d.setI k z) s).bind fun _ s => .ok .nx s) := q2
    obtain ⟨n, d, ys, j, k1, k2, k3, ⟨ki, rfl, k4⟩, k5, hy⟩ := atN_out ey
    obtain ⟨_, w0, hw0, own, _⟩ := o2.peek k1
    rw [hv0] at hw0; cases hw0
    obtain ⟨n2, d2, ys2, m1, m2, m3⟩ := okL_out hk
    obtain ⟨_, w1, hw1, own1, _⟩ := o1.peek m1
    rw [hv0] at hw1; cases hw1
    have nav2 : Nav H2 v0 ds ov := Nav.mono m2 m3 own1 nav fun a ha ob hob => st2.stp.keep a ob hob (o1.nF i a ha)
    obtain ⟨v', fp', n', ow, _⟩ := nav_own k2 own k3
    cases Nav.inj nav2 n'
    obtain ⟨m, hm⟩ : ∃ m, n - ds.length = m + 1 := ⟨n - ds.length - 1, by omega⟩
    rw [hm] at ow
    unfold Own at ow
    obtain ⟨p, us, fps', rfl, hp, hos, rfl⟩ := ow
    obtain ⟨vj, f1, f2, e1, e2, _, _⟩ := Owns.nth hos k5
    obtain ⟨fk, owk, _⟩ := gk.own
    have hkv := (Own.of0 owk).1
    unfold Val at hkv
    subst hkv
    have hat : atI us ki = some vj := by
      unfold atI
      rw [Owns.length hos, ← ixP_eq, k4]
      exact e1
    have hvy : ∀ (H : Hp) (G : Gs), Val M.X.K M.X.w M.C H G y 0 vj := fun H G => by
      rcases hy with ⟨m, rfl⟩ | ⟨x, rfl⟩
      · unfold Own at e2; have := e2.1; unfold Val at this ⊢; exact this
      · unfold Own at e2; have := e2.1; unfold Val at this ⊢; exact this
    refine ⟨p, us, ki, vj, rfl, rfl, SqL.of hp, hat, s2, fps2, G2, o2, RdG.toE (RdS.bindE o2 q2) fun dx s3 H3 G3 fps3 x o3 st3 gx q3 => ?_⟩
    cases ez : ipD op y dx with
    | none => rw [ez] at q3; exact False.elim q3
    | some z =>
    rw [ez] at q3
    have q3 : RdS M rn Dn H3 G3 ((chg i ds 99 (fun d => d.setI (.int ki) z) s3).bind fun _ s => .ok .nx s) := q3
    refine ⟨G3, y, dx, z, hvy _ _, gx.look (by omega), ez, fun vz hvz => ?_⟩
    obtain ⟨n, d, d', hn, hpp, hmm, hu, q4⟩ := chg_out q3
    obtain ⟨w0, p', us', ys', zs, m', fys, hw0, hnm, hg, hf, hnav, hb, hbi, hbf, hsub, hnd, hos', fin⟩ := o3.chg hn hpp hu setI_lst
    rw [hv0] at hw0; cases hw0
    have nav3 : Nav H3 v0 ds (.ref p) := Nav.mono k2 k3 own nav2 fun a ha ob hob => st3.stp.keep a ob hob (o2.nF i a ha)
    cases Nav.inj nav3 hnav
    obtain ⟨j', ej, ezs⟩ := Option.map_eq_some_iff.mp (show (ixP ys'.length ki).map (fun j => D.lst (ys'.set j z)) = some (.lst zs) from hf)
    cases ezs
    have hj : j' < ys'.length := by
      have := ixP_eq ys'.length ki
      rw [ej] at this
      exact (ixN_seq this.symm).2.1
    obtain ⟨vj', g1, g2, e1', e2', e3', e4'⟩ := Owns.nth hos' (List.getElem?_eq_getElem hj)
    have hpz : ¬ G3.Z p := o3.nz i p hbi
    have styU : Sty H3 G3 (upd H3 p (.lst (us'.set j' vz))) G3 := ⟨poke_hk hb trivial hpz, fun _ z => z, fun _ q => .inl q, fun _ q => q, fun a ha => by
      by_cases e : a = p
      · subst e; rw [upd_same] at ha; cases ha
      · rw [upd_ne e] at ha; exact ha⟩
    have owz : Own M.X.K M.X.w M.C (upd H3 p (.lst (us'.set j' vz))) G3 z m' vz [] := by
      rcases ipD_sca ez with ⟨m, rfl⟩ | ⟨x, rfl⟩
      · unfold Val at hvz; unfold Own Val; exact ⟨hvz, rfl⟩
      · unfold Val at hvz; unfold Own Val; exact ⟨hvz, rfl⟩
    obtain ⟨fz, z1, z2⟩ := e4' (upd H3 p (.lst (us'.set j' vz))) G3 z vz [] (fun a ha ob hob => by
      rw [upd_ne (fun e : a = p => hbf (by rw [← e]; exact e3'.mem_iff.mpr (List.mem_append_right _ ha)))]; exact hob) styU owz
    have ndf : (g1 ++ g2).Nodup := e3'.nodup_iff.mp hnd
    have ndz : fz.Nodup := by
      rw [z2.nodup_iff]
      exact (List.nodup_append.mp ndf).2.1
    obtain ⟨fps'', oF, sF, _⟩ := fin G3 (us'.set j' vz) fz o3 .refl z1 ndz (fun a ha => .inl (e3'.mem_iff.mpr (List.mem_append_right _ (by simpa using z2.mem_iff.mp ha))))
    exact ⟨p, us', ki, j', rfl, rfl, hb, by rw [Owns.length hos', ← ixP_eq]; exact ej, q4 σ _ G3 fps'' oF sF⟩
  · rw [if_neg hk] at q1
    exact False.elim q1
end
end Hx
namespace Hx
open PySem PySem.Spec PyProof.Rows L2
def Ty.nm : Ty → String
  | .int => "int" | .bool => "bool" | .tuple => "tuple" | .list => "list" | .str => "str" | .dict => "dict"
def isB : String → Ty → Bool
  | "int", .int => true
  | "bool", .int => true
  | "bool", .bool => true
  | "tuple", .tuple => true
  | "list", .list => true
  | "str", .str => true
  | _, _ => false
theorem kit_int (t : Ty) : kitB "int" t.nm = some (isB "int" t) := by cases t <;> decide +kernel
theorem kit_bool (t : Ty) : kitB "bool" t.nm = some (isB "bool" t) := by cases t <;> decide +kernel
theorem kit_tuple (t : Ty) : kitB "tuple" t.nm = some (isB "tuple" t) := by cases t <;> decide +kernel
theorem kit_list (t : Ty) : kitB "list" t.nm = some (isB "list" t) := by cases t <;> decide +kernel
theorem kit_str (t : Ty) : kitB "str" t.nm = some (isB "str" t) := by cases t <;> decide +kernel
theorem kit_non (t : Ty) : kitB "NoneType" t.nm = some (isB "NoneType" t) := by cases t <;> decide +kernel
section
variable {M : Md} {k : Nat} {σ : L2.St} {H : Hp} {Q : VK} {a : E}
theorem x_isi {t : Ty} (h : rdE M (.isi a t) k σ H Q) : tCB (rIsi M.X.K) (tCons (rdE M a 99) (tCons (tC (.ty t.nm)) tNil)) σ H Q := by
  obtain ⟨s, fps, G, ok, q⟩ := h
  unfold ev at q
  refine ⟨s, fps, G, ok, (RdG.bindE q).toE fun d s1 H1 G1 fps1 x o1 st1 g1 q1 => ?_⟩
  obtain ⟨z, hz, q3⟩ := RdG.opt q1
  have hv := g1.look (by omega)
  obtain ⟨b, hb, rfl⟩ := Option.map_eq_some_iff.mp hz
  have fin : Q (.bl b) H1 := (o1.new q3).bl
  have go : ∀ nm : String, TyX M.X.K H1 x (.type nm) → kitB nm t.nm = some b → ∃ (y c : V) (tt u : Value) (b : Bool), [x, .ty t.nm] = [y, c] ∧ ClsV c u ∧ TyX M.X.K H1 y tt ∧ PySem.W.kitOne M.X.K tt u = some b ∧ Q (.bl b) H1 :=
    fun nm h1 h2 => ⟨x, .ty t.nm, _, _, b, rfl, .ty t.nm, h1, kit_ty h2, fin⟩
  unfold isiD at hb
  split at hb
  · cases hb
  · cases hb
  · cases hb
  · cases hb
  · have hb := Option.some.inj hb
    cases d with
    | non => unfold Val at hv; subst hv; exact go "NoneType" (.base .non) (by rw [kit_non, ← hb]; cases t <;> rfl)
    | bl y => unfold Val at hv; subst hv; exact go "bool" (.base (.bl _)) (by rw [kit_bool, ← hb]; cases t <;> rfl)
    | int y => unfold Val at hv; subst hv; exact go "int" (.base (.int _)) (by rw [kit_int, ← hb]; cases t <;> rfl)
    | str y => unfold Val at hv; subst hv; exact go "str" (.base (.str _)) (by rw [kit_str, ← hb]; cases t <;> rfl)
    | tup y => unfold Val at hv; obtain ⟨a, vs, rfl, ha, _⟩ := hv; exact go "tuple" (.base (.tup ha)) (by rw [kit_tuple, ← hb]; cases t <;> rfl)
    | lst y => unfold Val at hv; obtain ⟨a, vs, rfl, ha, _⟩ := hv; exact go "list" (.base (.lst ha)) (by rw [kit_list, ← hb]; cases t <;> rfl)
    | _ => simp_all
end
end Hx
namespace Hx
open PySem PySem.Spec PyProof.Rows L2
/-- a draw's promise -/
def spDraw : L2.Sp := fun vs H Q _ => ∃ (a aN : Addr) (ns : List Int) (c n r : Int) (w' : Wd), vs = [.ref a, .int n] ∧ a ≠ aN ∧ H a = some (.lst [.ref aN, .int c]) ∧ H aN = some (.lst (ns.map V.int)) ∧ ns.length ≤ 63 ∧ 0 ≤ c ∧ drawW (some (ns, c)) n = some (r, w') ∧
  ∀ ns' c', w' = some (ns', c') → Q (.int r) (upd (upd H a (.lst [.ref aN, .int c'])) aN (.lst (ns'.map V.int)))
theorem x_draw {M : Md} {t n : E} {k : Nat} {σ : L2.St} {H : Hp} {Q : VK} (h : rdE M (.draw t n) k σ H Q) : tCallS spDraw (WE M.W) (tCons (rdE M t 99) (tCons (rdE M n 99) tNil)) σ H Q := by
  obtain ⟨s, fps, G, ok, q⟩ := h
  unfold ev at q
  refine ⟨s, fps, G, ok, (RdG.bindE q).toE fun d1 s1 H1 G1 fps1 x o1 st1 g1 q1 => ⟨s1, fps1, G1, o1, (RdG.bindE q1).toE fun d2 s2 H2 G2 fps2 y o2 st2 g2 q2 => ?_⟩⟩
  show spDraw [x, y] H2 Q (WE M.W σ)
  split at q2
  · rename_i i
    have hx := (g1.look (by omega)).mono st2.stp o1.gi
    have hy := g2.look (by omega)
    unfold Val at hx hy
    obtain ⟨a, rfl, hta⟩ := hx
    subst hy
    have wr := o2.wr
    cases hr : drawW s2.w i with
    | none => rw [hr] at q2; exact False.elim q2
    | some r =>
    rw [hr] at q2
    have q2 : RdE M.X.K M.X.w M.C M.H0 M.G0 σ M.W k (dep M.rd (t.draw n)) H2 G2 fps2 Q (.ok (.int r.1) { s2 with w := r.2 }) := q2
    cases hw : s2.w with
    | none => rw [hw] at wr; exact absurd hta (wr.2 a)
    | some p =>
      obtain ⟨ns, c⟩ := p
      rw [hw] at wr hr
      obtain ⟨w1, w2, w3, aT, aN, w4, w5, w6, w7, w8⟩ := wr
      obtain rfl := (w8 a).mp hta
      obtain ⟨r1, w'⟩ := r
      refine ⟨a, aN, ns, c, i, r1, w', rfl, w4, w5, w6, w2, w3, hr, fun ns' c' e => ?_⟩
      subst e
      have hlen : ns' ≠ [] ∧ ns'.length ≤ 63 ∧ 0 ≤ c' := by
        unfold drawW at hr
        simp only at hr
        split at hr
        · split at hr
          · cases hr
          · split at hr
            · cases hr
              refine ⟨fun e => w1 (by have := congrArg List.length e; rw [List.length_set] at this; exact List.eq_nil_of_length_eq_zero this), by rw [List.length_set]; exact w2, by omega⟩
            · cases hr
              exact ⟨w1, w2, by omega⟩
        · cases hr
      let H' := upd (upd H2 a (.lst [.ref aN, .int c'])) aN (.lst (ns'.map V.int))
      have hT : H' a = some (.lst [.ref aN, .int c']) := by show upd _ aN _ a = _; rw [upd_ne w4, upd_same]
      have hN : H' aN = some (.lst (ns'.map V.int)) := upd_same
      have ho : ∀ b, b ≠ a → b ≠ aN → H' b = H2 b := fun b h1 h2 => by show upd _ aN _ b = _; rw [upd_ne h2, upd_ne h1]
      have ret : Ret M.X.K M.X.w M.C H2 G2 H' G2 (some (ns', c')) := by
        refine ⟨⟨o2.gi.zf, fun b z => ?_, fun b z => ?_⟩, ⟨hlen.1, hlen.2.1, hlen.2.2, a, aN, w4, hT, hN, w7, w8⟩, ⟨fun b o e nf => ?_, fun _ z => z, fun _ z => .inl z, fun _ z => z, fun _ z => z⟩, fun _ z => .inl z⟩
        · by_cases e1 : b = a
          · rw [e1, hT]; simp
          · by_cases e2 : b = aN
            · rw [e2, hN]; simp
            · rw [ho b e1 e2]; exact o2.gi.zh b z
        · rcases (w7 b).mp z with e | e
          · rw [e]; exact ⟨_, hT⟩
          · rw [e]; exact ⟨_, hN⟩
        · have n1 : b ≠ a := fun e => nf ((w7 b).mpr (.inl e))
          have n2 : b ≠ aN := fun e => nf ((w7 b).mpr (.inr e))
          rw [ho b n1 n2]; exact e
      obtain ⟨o3, st3⟩ := o2.ret ret
      exact o3.finO (fp := []) (n := dep M.rd (t.draw n)) st3 q2 (fun _ _ h => h) (by unfold Own Val; exact ⟨rfl, rfl⟩) Fresh.nil o2.none0
  · exact False.elim q2
def spTown (K : PySem.W.Frag) : L2.Sp := fun vs H Q _ => ∃ (a : Addr) (ns : List Int), vs = [.ref a] ∧ SqL K H a (ns.map V.int) ∧ ns.length ≤ 63 ∧
  ∀ H' aT aN, (∀ b o, H b = some o → H' b = some o) → aT ≠ aN → H aT = none → H aN = none → H' aT = some (.lst [.ref aN, .int 0]) → H' aN = some (.lst ((if ns = [] then [0] else ns).map V.int)) → Q (.ref aT) H'
theorem x_mkt {M : Md} {t : E} {k : Nat} {σ : L2.St} {H : Hp} {Q : VK} (h : rdE M (.mkt t) k σ H Q) : tCallS (spTown M.X.K) (WE M.W) (tCons (rdE M t 99) tNil) σ H Q := by
  obtain ⟨s, fps, G, ok, q⟩ := h
  unfold ev at q
  refine ⟨s, fps, G, ok, (RdG.bindE q).toE fun d1 s1 H1 G1 fps1 x o1 st1 g1 q1 => ?_⟩
  show spTown M.X.K [x] H1 Q (WE M.W σ)
  split at q1
  · rename_i ns hw
    have hx := g1.look (by omega)
    unfold Val at hx
    obtain ⟨a, rfl, hs⟩ := hx
    have wr := o1.wr
    rw [hw] at wr
    by_cases hl : ns.length ≤ 63
    · rw [if_pos hl] at q1
      have hsq : SqL M.X.K H1 a (ns.map V.int) := by
        rcases hs with hs | ⟨o, hs⟩
        · exact .inr hs
        · exact .inl (.inr ⟨o, hs⟩)
      refine ⟨a, ns, rfl, hsq, hl, fun H' aT aN gr hne hT0 hN0 hT hN => ?_⟩
      let G' : Gs := { G1 with F := fun b => b = aT ∨ b = aN, t := fun b => b = aT }
      have ret : Ret M.X.K M.X.w M.C H1 G1 H' G' (some (if ns = [] then [0] else ns, 0)) := by
        refine ⟨⟨fun b z e => ?_, fun b z e => ?_, fun b z => ?_⟩, ⟨?_, ?_, by decide, aT, aN, hne, hT, hN, fun b => Iff.rfl, fun b => Iff.rfl⟩, ⟨fun b o e _ => gr b o e, fun _ z => z, fun b z => ?_, fun b z => absurd z (wr.1 b), fun b z => absurd z (wr.2 b)⟩, fun _ z => .inl z⟩
        · rcases e with e | e
          · rw [e] at z; exact o1.gi.zh aT z hT0
          · rw [e] at z; exact o1.gi.zh aN z hN0
        · have hz := o1.gi.zh b z
          cases e2 : H1 b with
          | none => exact hz e2
          | some o => rw [gr b o e2] at e; cases e
        · rcases z with e | e
          · rw [e]; exact ⟨_, hT⟩
          · rw [e]; exact ⟨_, hN⟩
        · by_cases e : ns = []
          · rw [if_pos e]; simp
          · rw [if_neg e]; exact e
        · by_cases e : ns = []
          · rw [if_pos e]; decide
          · rw [if_neg e]; exact hl
        · rcases z with e | e
          · rw [e]; exact .inr hT0
          · rw [e]; exact .inr hN0
      obtain ⟨o3, st3⟩ := o1.ret ret
      exact o3.finO (fp := []) (n := dep M.rd (.mkt t)) st3 q1 (fun _ _ h => h) (by unfold Own Val; exact ⟨⟨aT, rfl, rfl⟩, rfl⟩) Fresh.nil o1.none0
    · rw [if_neg hl] at q1
      exact False.elim q1
  · exact False.elim q1
end Hx
namespace Hx
open PySem PySem.Spec PyProof.Rows L2
def initN : List Str := ["self", "beat", "line"]
abbrev initB (p1 p2 p3 p4 p5 p6 p7 p8 : Pos) : List Stmt :=
  [.Assign [.Attribute (.Name "self" p1) "beat" p2] (.Name "beat" p3) p4, .Assign [.Attribute (.Name "self" p5) "line" p6] (.Name "line" p7) p8]
def tInit (K : PySem.W.Frag) : TS := tSeq (tOst K "beat" (tVar 0) (tVar 1)) (tOst K "line" (tVar 0) (tVar 2))
theorem pss_init {X : Cx} {p1 p2 p3 p4 p5 p6 p7 p8 : Pos} (hN : X.N = initN) (hl : ∀ x ∈ initN, X.env.scope.names.lookup x = some .local) : PSs X (initB p1 p2 p3 p4 p5 p6 p7 p8) (tInit X.K) := by
  have pd : ∀ (i : Fin 3) {pos : Pos}, PE X (.Name initN[i] pos) (tVar i) := fun i pos => pe_var (by rw [hN]; exact List.getElem?_eq_getElem i.2) (.inl (hl _ (List.getElem_mem _))) (by revert i; decide) (by revert i; decide)
  have pd0 : ∀ {pos : Pos}, PE X (.Name "self" pos) (tVar 0) := fun {pos} => pd 0
  have pd1 : ∀ {pos : Pos}, PE X (.Name "beat" pos) (tVar 1) := fun {pos} => pd 1
  have pd2 : ∀ {pos : Pos}, PE X (.Name "line" pos) (tVar 2) := fun {pos} => pd 2
  exact pss_cons (ps_ost pd0 pd1) (pss_one (ps_ost pd0 pd2))
def spInit (K : PySem.W.Frag) (C : Addr) : L2.Sp := fun vs H Q _ => ∃ (a : Addr) (v u : V), vs = [.ref a, v, u] ∧ OexC K C ∧ PySem.W.findIn K (.ref C) "beat" = some none ∧ PySem.W.findIn K (.ref C) "line" = some none ∧ H a = some (exo a C none) ∧
  ∀ d, H d = none → d ≠ a → Q .non (upd (upd (upd H d (exd d [("beat", v)])) a (exo a C (some d))) d (exd d [("line", u), ("beat", v)]))
theorem init_run {K : PySem.W.Frag} {Cl : Addr} {vs : List V} {H : Hp} {Q : VK} {E : XK} (h : spInit K Cl vs H Q E) : tInit K { nx := fun _ H' => Q .non H', rt := Q } (L2.start initN vs) H := by
  obtain ⟨a, v, u, rfl, T, n1, n2, ea, q⟩ := h
  refine ⟨v, rfl, .ref a, rfl, a, Cl, rfl, T, n1, .inl ⟨ea, fun d hd hn => ?_⟩⟩
  refine ⟨u, rfl, .ref a, rfl, a, Cl, rfl, T, n2, .inr ⟨d, [("beat", v)], upd_same, ?_, (show 1 ≤ 900 by decide), ?_⟩⟩
  · rw [upd_ne hn, upd_same]
  · exact q d hd hn
section
variable {P : Program} {w : World} {K : PySem.W.Frag} {mg : Str → Option Value} {base : Heap}
theorem ok_init {qual : Str} {st : Stmt} {f Cl : Addr} {fd : FuncData} {k : Nat} (F : L2.Fun K "__init__" qual st f fd) (S : FnScope initN initN (defScope st)) (hl : ∀ x ∈ initN, (defScope st).names.lookup x = some .local)
    (hb : ∀ X : Cx, X.N = initN → (∀ x ∈ initN, X.env.scope.names.lookup x = some .local) → PSs X (defBody st) (tInit X.K)) :
    FnOk P w K mg base (L2.CX P w) (k + 1) f fd initN (spInit K Cl) := by
  refine F.okX S (fun vs H Q E q => by obtain ⟨a, v, u, rfl, _⟩ := q; rfl) fun cdv A outer s H vs Q E hr hsp => ⟨_, hb _ rfl hl, init_run hsp⟩
end
section
variable {M : Md} {rn : Nat} {Dn : Ends} {σ : List (Option V)} {H : Hp} {as : E}
/-- raise of an exception with its two fields -/
theorem s_rai1 {c : Str} (hf : fieldsOf c = (["beat", "line"] : List Str)) (hc : cnt as = 2) (T : OexC M.X.K (M.C c)) (n1 : PySem.W.findIn M.X.K (.ref (M.C c)) "beat" = some none) (n2 : PySem.W.findIn M.X.K (.ref (M.C c)) "line" = some none)
    (h : rdS M rn (.rai c as) Dn σ H) : tMkO (M.C c) (spInit M.X.K (M.C c)) [] (rdA M as 0) σ H (fun u dd H' => M.W u dd σ H') := by
  obtain ⟨s, fps, G, o, q⟩ := h
  unfold ex at q
  refine ⟨s, fps, G, o, (RdS.bindE o q).imp fun ds s1 H1 G1 fps1 hr o1 st1 q1 vs fp ow f => ?_⟩
  have hv : Val.Vals' M.X.K M.X.w M.C H1 G1 ds 0 vs := (Owns.of0 ow).1
  have hl : vs.length = 2 := by rw [Owns.length ow, evA_len hr, hc]
  match vs, hl with
  | [v, u], _ =>
    refine ⟨(show 2 ≤ 1000 by decide), fun a ha => ⟨a, v, u, rfl, T, n1, n2, upd_same, fun d hd hn => ⟨rfl, d, [("line", u), ("beat", v)], ?_, upd_same, ?_, ?_⟩⟩⟩
    · rw [upd_ne (Ne.symm hn), upd_same]
    · rw [upd_ne hn] at hd; exact hd
    · have hd1 : H1 d = none := by rw [upd_ne hn] at hd; exact hd
      have e : upd (del (upd (upd (upd (upd H1 a (exo a (M.C c) none)) d (exd d [("beat", v)])) a (exo a (M.C c) (some d))) d (exd d [("line", u), ("beat", v)])) a) d (.xd [("line", u), ("beat", v)]) = upd H1 d (.xd [("line", u), ("beat", v)]) := by
        funext b
        by_cases hbd : b = d
        · subst hbd; rw [upd_same, upd_same]
        · rw [upd_ne hbd, upd_ne hbd]
          by_cases hba : b = a
          · subst hba; rw [del_same, ha]
          · rw [del_ne hba, upd_ne hbd, upd_ne hba, upd_ne hbd, upd_ne hba]
      show M.W (.ref (M.C c)) (some d) σ _
      rw [e]
      obtain ⟨o2, st2⟩ := o1.grow (grow_upd (o := .xd [("line", u), ("beat", v)]) hd1) (fp := []) (fun _ h => nomatch h) (fun _ h => nomatch h)
      refine q1 _ _ _ _ (some d) o2 (st2.stp.sty o1.gi o2.gi) ?_
      unfold XR
      rw [if_neg (by rw [hf]; exact fun h => nomatch h), hf]
      exact ⟨d, [v, u], rfl, upd_same, rfl, Vals'.mono st2.stp o1.gi hv⟩
end
end Hx
namespace Hx
open PySem PySem.Spec PyProof.Rows L2
/-- what is known where a piece of text stands -/
structure Cfg where
  N : List Str
  sc : Scope
  cel : List Str
  glb : List (Str × D)
  fns : List (Str × Nat × Nat)
  bl : List Str
  law : Bool := false
def plainX : Expr → Bool
  | .BoolOp .. | .BinOp .. | .UnaryOp .. | .IfExp .. | .ListComp .. | .Compare .. | .Call .. | .Constant .. | .Attribute .. | .Subscript .. | .Name .. | .List .. | .Tuple .. => true
  | _ => false
def plainT : Expr → Bool
  | .Call .. | .Constant .. | .Subscript .. | .Name .. => true
  | _ => false
def isVis : Option NameKind → Bool
  | some .local | some .cell | some .free => true
  | _ => false
def isGlo : Option NameKind → Bool
  | some .globalImplicit => true
  | _ => false
def isVar (c : Cfg) (x : Str) (i : Nat) : Bool := decide (c.N[i]? = some x) && isVis (c.sc.names.lookup x) && !(x == "__debug__") && !(x == "__classdict__")
def isGl (c : Cfg) (x : Str) : Bool := isGlo (c.sc.names.lookup x) && !(x == "__debug__")
def isBl (c : Cfg) (x : Str) : Bool := isGl c x && decide (x ∈ c.bl) && decide (x ≠ "__name__")
def isSt (c : Cfg) (x : Str) : Bool := decide (c.sc.names.lookup x = some .local) || (decide (c.sc.names.lookup x = some .cell) && decide (x ∈ c.cel))
/-- a constant as data -/
def cstB : D → Const → Bool
  | .non, .none => true
  | .bl b, .bool b' => b == b'
  | .int i, .int j => decide (i = j)
  | .str s, .str z => decide (s = z)
  | _, _ => false
def glbB : D → Option D → Bool
  | .int i, some (.int j) => decide (i = j)
  | .str s, some (.str z) => decide (s = z)
  | _, _ => false
def primNm : Prim → Option Str
  | .len => some "len" | .tuple => some "tuple" | .list => some "list" | .sorted => some "sorted" | .all => some "all" | .any => some "any" | .sum => some "sum"
  | .max => some "max" | .min => some "min" | .max2 => some "max" | .min2 => some "min" | .str => some "str"
  | _ => none
def methNm : Prim → Option Str
  | .join => some "join" | .index => some "index" | .count => some "count"
  | _ => none
/-- a store -/
def tgB (c : Cfg) : Tg → Expr → Bool
  | .v i, .Name x _ => decide (c.N[i]? = some x) && isSt c x
  | .cons t r, .Tuple es _ _ => (match es with
    | x :: xs => tgB c t x && tgsB c r xs
    | [] => false)
  | _, _ => false
where tgsB (c : Cfg) : Tg → List Expr → Bool
  | .nil, [] => true
  | .cons t r, x :: xs => tgB c t x && tgsB c r xs
  | _, _ => false
structure Ck where
  e : Cfg → Expr → Bool := fun _ _ => false
  t : Cfg → Expr → Bool := fun _ _ => false
  wa : Cfg → List Expr → Bool := fun _ _ => false
  wo : Cfg → List Expr → Bool := fun _ _ => false
  va : Cfg → List Expr → Bool := fun _ _ => false
  vo : Cfg → List Expr → Bool := fun _ _ => false
  a : Cfg → List Expr → Bool := fun _ _ => false
  o : Cfg → Option Expr → Bool := fun _ _ => false
  i : Cfg → Expr → Expr → Bool := fun _ _ _ => false
  g : Cfg → Cfg → List Nat → Expr → List Comprehension → Nat → Bool := fun _ _ _ _ _ _ => false
def one (f : Cfg → Expr → Bool) (c : Cfg) : List Expr → Bool
  | [x] => f c x
  | _ => false
def two (f : Cfg → Expr → Bool) (g : Cfg → List Expr → Bool) (c : Cfg) : List Expr → Bool
  | x :: y :: r => f c x && g c (y :: r)
  | _ => false
def orL (f g : Cfg → List Expr → Bool) (c : Cfg) (xs : List Expr) : Bool := f c xs || g c xs
def Ck.val (f : Cfg → Expr → Bool) : Ck :=
  { e := f, t := fun c x => f c x && plainT x, wa := one fun c x => f c x && plainT x, wo := one fun c x => f c x && plainT x, va := one f, vo := one f }
def Ck.tst (f t : Cfg → Expr → Bool) : Ck := { e := f, t := t, wa := one t, wo := one t, va := one f, vo := one f }
/-- the comprehension's own names -/
def ownOf (N : List Str) (vs : List Nat) : List (Str × Nat) := vs.map fun i => ((N[i]?).getD "", i)
def blkB (c : Cfg) (sc : Scope) (vs : List Nat) : Bool :=
  decide (sc.kind = .function) && sc.names.all (fun y => decide (sc.names.lookup y.1 = some y.2)) && vs.all (fun i => (c.N[i]?).isSome) &&
  sc.names.all (fun y => !decide (y.2 = .free) || (match c.sc.names.lookup y.1 with
    | some .cell | some .free => true
    | _ => false)) &&
  sc.names.all (fun y => !(decide (y.2 = .local) || decide (y.2 = .cell)) || decide (y.1 ∈ (ownOf c.N vs).map (·.1)) || !decide (y.1 ∈ c.N))
def Cfg.blk (c : Cfg) (sc : Scope) : Cfg := { c with sc := relS sc c.sc, cel := sc.names.filterMap fun y => if y.2 = .cell then some y.1 else none }
def tyNm (t : Ty) : Str := match t with
  | .int => "int" | .bool => "bool" | .tuple => "tuple" | .list => "list" | .str => "str" | .dict => "dict"
def chk : E → Ck
  | .var i => .val fun c x => match x with
    | .Name n _ => isVar c n i
    | _ => false
  | .cst d => .val fun _ x => match x with
    | .Constant k _ _ => cstB d k
    | _ => false
  | .glb d => .val fun c x => match x with
    | .Name n _ => isGl c n && glbB d (c.glb.lookup n)
    | _ => false
  | .tup as => .val fun c x => match x with
    | .Tuple es _ _ => (chk as).a c es && decide (cnt as ≤ 1000)
    | _ => false
  | .lst as => .val fun c x => match x with
    | .List es _ => (chk as).a c es && decide (cnt as ≤ 1000)
    | _ => false
  | .bin o a b => .val fun c x => match x with
    | .BinOp l op r _ => decide (op = bopPy o) && (chk a).e c l && (chk b).e c r
    | _ => false
  | .neg a => .val fun c x => match x with
    | .UnaryOp .USub y _ => (chk a).e c y
    | _ => false
  | .not a => .tst (fun c x => match x with
    | .UnaryOp .Not y _ => (chk a).e c y
    | _ => false) (fun c x => match x with
    | .UnaryOp .Not y _ => (chk a).t c y
    | _ => false)
  | .and a b =>
    let f := fun c x => match x with
      | .BoolOp .And xs _ => two (chk a).e (chk b).va c xs
      | _ => false
    let t := fun c x => match x with
      | .BoolOp .And xs _ => two (chk a).t (chk b).wa c xs
      | _ => false
    { e := f, t := t, wa := orL (one t) (two (chk a).t (chk b).wa), wo := one t, va := orL (one f) (two (chk a).e (chk b).va), vo := one f }
  | .or a b =>
    let f := fun c x => match x with
      | .BoolOp .Or xs _ => two (chk a).e (chk b).vo c xs
      | _ => false
    let t := fun c x => match x with
      | .BoolOp .Or xs _ => two (chk a).t (chk b).wo c xs
      | _ => false
    { e := f, t := t, wa := one t, wo := orL (one t) (two (chk a).t (chk b).wo), va := one f, vo := orL (one f) (two (chk a).e (chk b).vo) }
  | .ife c a b => .val fun cf x => match x with
    | .IfExp t l r _ => (chk c).t cf t && (chk a).e cf l && (chk b).e cf r
    | _ => false
  | .cmp o a b =>
    let f := fun c x => match x with
      | .Compare l [op] [r] _ => decide (op = copPy o) && (chk a).e c l && (chk b).e c r && plainX r
      | _ => false
    .tst f f
  | .chn o p a b d =>
    let f := fun c x => match x with
      | .Compare l [op, op'] [r, r'] _ => decide (op = copPy o) && decide (op' = copPy p) && (chk a).e c l && (chk b).e c r && (chk d).e c r' && plainX r && plainX r'
      | _ => false
    .tst f f
  | .call f as => .val fun c x => match x with
    | .Call (.Name n _) (y :: ys) [] _ => isGl c n && decide (c.fns.lookup n = some (f, cnt as)) && (chk as).a c (y :: ys)
    | _ => false
  | .prm p as => .val fun c x => match x with
    | .Call (.Name n _) (y :: ys) [] _ => decide (primNm p = some n) && isBl c n && (chk as).a c (y :: ys)
    | _ => false
  | .idx a i => .val fun c x => match x with
    | .Subscript l r _ => (chk a).e c l && (chk i).e c r && plainX r
    | _ => false
  | .slc a lo hi => .val fun c x => match x with
    | .Subscript l (.Slice u v none _) _ => (chk a).e c l && (chk lo).o c u && (chk hi).o c v
    | _ => false
  | .rev a => .val fun c x => match x with
    | .Subscript l (.Slice none none (some (.UnaryOp .USub (.Constant (.int i) _ _) _)) _) _ => (chk a).e c l && decide (i = 1)
    | _ => false
  | .comp vs g => .val fun c x => match x with
    | .ListComp elt gens sc _ => (match gens with
      | [] => false
      | _ :: _ => true) && blkB c sc vs && gens.all (fun g => decide (g.is_async = 0) && plainX g.iter) && (chk g).g c (c.blk sc) vs elt gens 0
    | _ => false
  | .isi a t => .val fun c x => match x with
    | .Call (.Name n _) [y, .Name m _] [] _ => decide (n = "isinstance") && isBl c n && decide (m = tyNm t) && isBl c m && (chk a).e c y && plainX y
    | _ => false
  | .draw t n => .val fun c x => match x with
    | .Call (.Name m _) [u, v] [] _ => decide (m = "_law_draw") && c.law && isGl c m && (chk t).e c u && (chk n).e c v && plainX u && plainX v
    | _ => false
  | .mkt t => .val fun c x => match x with
    | .Call (.Name m _) [u] [] _ => decide (m = "_law_town") && c.law && isGl c m && (chk t).e c u && plainX u
    | _ => false
  | .nil => { a := fun _ xs => (match xs with
      | [] => true
      | _ => false), o := fun _ x => (match x with
      | none => true
      | _ => false) }
  | .cons a r => { a := fun c xs => (match xs with
      | x :: ys => plainX x && (chk a).e c x && (chk r).a c ys
      | [] => false), o := fun c x => (match x with
      | some y => (chk a).e c y
      | none => false) }
  | .irng as => { i := fun c _ x => match x with
    | .Call (.Name n _) (y :: ys) [] _ => decide (n = "range") && isBl c n && (chk as).a c (y :: ys) && decide (cnt as ≤ 3)
    | _ => false }
  | .ienu a => { i := fun c tg x => match x with
    | .Call (.Name n _) [y] [] _ => decide (n = "enumerate") && isBl c n && (chk a).e c y && plainX y && (match tg with
      | .Tuple _ _ _ => true
      | _ => false)
    | _ => false }
  | .iit a => { i := fun c _ x => (chk a).e c x }
  | .gfor t it cn r => { g := fun co ci vs elt gens n => match gens[n]? with
    | some ⟨tg, iter, ifs, as⟩ => decide (as = 0) && (chk it).i co tg iter && plainX iter && tgB ci t tg && t.slots.all (fun j => decide (j ∈ vs)) && (match ifs with
      | [] => (match cn with
        | .cst (.bl true) => true
        | _ => false)
      | [x] => (chk cn).t ci x
      | _ => false) && (chk r).g ci ci vs elt gens (n + 1)
    | none => false }
  | .gelt a => { g := fun _ ci _ elt gens n => (gens[n]?).isNone && (chk a).e ci elt }
  | _ => {}
structure FnHere (M : Md) (x : Str) (i ar : Nat) : Prop where
  ex : ∃ (f : Addr) (fd : FuncData) (ps : List Str) (k : Nat), FnOk M.X.prog M.X.w M.X.K M.X.mg M.X.base (L2.CX M.X.prog M.X.w) k f fd ps (spF M.X.K M.X.w M.C M.sem M.rd i ar) ∧ Room k M.X.A ∧ M.X.mg x = some (.ref f) ∧ PySem.W.keepIn M.X.K (.ref f) = true ∧ Binds M.X.K fd ps []
/-- a helper of the law's own -/
structure SpHere (M : Md) (x : Str) (sp : L2.Sp) : Prop where
  ex : ∃ (f : Addr) (fd : FuncData) (ps : List Str) (k : Nat), FnOk M.X.prog M.X.w M.X.K M.X.mg M.X.base (L2.CX M.X.prog M.X.w) k f fd ps sp ∧ Room k M.X.A ∧ M.X.mg x = some (.ref f) ∧ PySem.W.keepIn M.X.K (.ref f) = true ∧ Binds M.X.K fd ps []
def gV : D → Option V
  | .int i => some (.int i)
  | .str s => some (.str s)
  | _ => none
structure Fit (c : Cfg) (M : Md) : Prop where
  N : M.X.N = c.N
  nd : c.N.Nodup
  sc : M.X.env.scope = c.sc
  cel : ∀ x ∈ c.cel, M.X.fn x = true
  calm : M.X.calm = true
  hu : M.X.A.units + 65 < cLine
  fns : ∀ x i ar, c.fns.lookup x = some (i, ar) → FnHere M x i ar
  glb : ∀ x d, c.glb.lookup x = some d → ∃ u v, M.X.mg x = some u ∧ gV d = some v ∧ RelV v u
  bl : ∀ x ∈ c.bl, M.X.mg x = none
  tk : L2.Takes M.X M.W
  law : c.law = true → SpHere M "_law_draw" spDraw ∧ SpHere M "_law_town" (spTown M.X.K)
theorem isVis_out {sc : Scope} {x : Str} (h : isVis (sc.names.lookup x) = true) : Vis sc x := by
  unfold isVis at h
  split at h
  · rename_i e; exact .inl e
  · rename_i e; exact .inr (.inl e)
  · rename_i e; exact .inr (.inr e)
  · cases h
theorem isGlo_out {o : Option NameKind} (h : isGlo o = true) : o = some .globalImplicit := by
  unfold isGlo at h
  split at h
  · rfl
  · cases h
theorem blk_ok {c : Cfg} {sc : Scope} {vs : List Nat} (h : blkB c sc vs = true) : BlkOk c.N c.sc sc (ownOf c.N vs) ∧ (ownOf c.N vs).map (·.2) = vs := by
  unfold blkB at h
  simp only [Bool.and_eq_true, decide_eq_true_eq, List.all_eq_true, Bool.or_eq_true, Bool.not_eq_true', decide_eq_false_iff_not] at h
  obtain ⟨⟨⟨⟨h1, h2⟩, h3⟩, h4⟩, h5⟩ := h
  refine ⟨⟨h1, h2, fun p hp => ?_, fun y hy e => ?_, fun y hy e => ?_⟩, by unfold ownOf; rw [List.map_map]; exact List.map_id' vs⟩
  · obtain ⟨i, hi, rfl⟩ := List.mem_map.mp hp
    have := h3 i hi
    cases e : c.N[i]? with
    | none => rw [e] at this; cases this
    | some n => rfl
  · rcases h4 y hy with q | q
    · exact absurd e q
    · split at q
      · rename_i e2; exact .inl e2
      · rename_i e2; exact .inr e2
      · cases q
  · rcases h5 y hy with (q | q) | q
    · rcases e with e | e
      · simp [e] at q
      · simp [e] at q
    · exact .inl q
    · exact .inr q
theorem Fit.blk {c : Cfg} {M : Md} (f : Fit c M) {s : Shared} {H : Hp} {sc : Scope} {vs : List Nat} {A0 : Addr} {cl : List (Str × Addr)} {fp : List Addr} (hb : blkB c sc vs = true) : Fit (c.blk sc) (M.blk s H sc (compEnvC sc cl A0 M.X.env) fp) := by
  refine ⟨f.N, f.nd, ?_, ?_, f.calm, f.hu, fun x i ar h => ⟨(f.fns x i ar h).ex⟩, f.glb, f.bl, takes0, fun h => ⟨⟨(f.law h).1.ex⟩, ⟨(f.law h).2.ex⟩⟩⟩
  · show relS sc M.X.env.scope = relS sc c.sc
    rw [f.sc]
  · intro x hx
    obtain ⟨y, hy, e⟩ := List.mem_filterMap.mp (show x ∈ sc.names.filterMap fun y => if y.2 = .cell then some y.1 else none from hx)
    split at e
    · rename_i ek
      cases e
      show (sc.names.lookup y.1 == some .cell) = true
      rw [(blk_ok hb).1.uniq y hy, ek]
      rfl
    · cases e
section
variable {c : Cfg} {M : Md} (f : Fit c M)
include f
theorem Fit.var {x : Str} {i : Nat} {pos : Pos} (h : isVar c x i = true) : PE M.X (.Name x pos) (tVar i) := by
  unfold isVar at h
  simp only [Bool.and_eq_true, decide_eq_true_eq, Bool.not_eq_true'] at h
  exact pe_var (by rw [f.N]; exact h.1.1.1) (by rw [f.sc]; exact isVis_out h.1.1.2) h.1.2 h.2
theorem Fit.gl {x : Str} (h : isGl c x = true) : Gl M.X x ∧ (x == ("__debug__" : Str)) = false := by
  unfold isGl at h
  simp only [Bool.and_eq_true, Bool.not_eq_true'] at h
  refine ⟨?_, h.2⟩
  show M.X.env.scope.names.lookup x = _
  rw [f.sc]
  exact isGlo_out h.1
theorem Fit.blt {x : Str} (h : isBl c x = true) : Gl M.X x ∧ M.X.mg x = none ∧ x ≠ "__name__" ∧ (x == ("__debug__" : Str)) = false := by
  unfold isBl at h
  simp only [Bool.and_eq_true, decide_eq_true_eq] at h
  obtain ⟨g1, g2⟩ := f.gl h.1.1
  exact ⟨g1, f.bl x h.1.2, h.2, g2⟩
theorem Fit.st {x : Str} (h : isSt c x = true) : Loc M.X.env.scope x ∧ (M.X.fn x = true ∨ M.X.env.scope.names.lookup x = some .local) := by
  unfold isSt at h
  simp only [Bool.and_eq_true, Bool.or_eq_true, decide_eq_true_eq] at h
  rw [f.sc]
  rcases h with h | h
  · exact ⟨.inl h, .inr h⟩
  · exact ⟨.inr h.1, .inl (f.cel x h.2)⟩
end
theorem star_plain {x : Expr} (h : plainX x = true) (xs : List Expr) (env : Env) : starEach (x :: xs) env = (false, eval x env) :: starEach xs env := by
  cases x <;> first | rfl | cases h
theorem fold_plain {x : Expr} (h : plainX x = true) (env : Env) (v : Value) : foldedSetIterable x env v = pure v := by
  cases x <;> first | rfl | cases h
theorem ix_plain {x : Expr} (h : plainX x = true) : PlainIx x := by
  intro o i
  cases x <;> first | rfl | cases h
theorem beh_plain {x : Expr} {op : CmpOp} (h : plainX x = true) : behindInMarks op x = false := by
  cases x <;> first | rfl | cases h
theorem true_plain {x : Expr} (h : plainT x = true) (env : Env) (whole : PySem.Sem Value) : isTrue x env whole = (do let v ← whole; standAt x.pos; holding [v] (truthy v)) := by
  cases x <;> first | rfl | cases h
/-- the checks are sound for the term -/
structure Snd (u : E) : Prop where
  e : ∀ {c M}, Fit c M → ∀ x, (chk u).e c x = true → ∀ k, PE M.X x (rdE M u k)
  t : ∀ {c M}, Fit c M → ∀ x, (chk u).t c x = true → PT M.X x (rdT M u)
  wa : ∀ {c M}, Fit c M → ∀ xs, (chk u).wa c xs = true → ∀ pos, PW M.X (.BoolOp .And xs pos) (rdT M u)
  wo : ∀ {c M}, Fit c M → ∀ xs, (chk u).wo c xs = true → ∀ pos, PW M.X (.BoolOp .Or xs pos) (rdT M u)
  va : ∀ {c M}, Fit c M → ∀ xs, (chk u).va c xs = true → ∀ pos k, PE M.X (.BoolOp .And xs pos) (rdE M u k)
  vo : ∀ {c M}, Fit c M → ∀ xs, (chk u).vo c xs = true → ∀ pos k, PE M.X (.BoolOp .Or xs pos) (rdE M u k)
  a : ∀ {c M}, Fit c M → ∀ xs, (chk u).a c xs = true → (∀ n, n ≤ dep M.rd u → PA M.X xs (rdA M u n)) ∧ (∀ ks, PA M.X xs (rdP M u ks)) ∧ xs.length = cnt u ∧ xs.all plainX = true
  a2 : ∀ {c M}, Fit c M → ∀ x y, (chk u).a c [x, y] = true → ∃ a b, u = .cons a (.cons b .nil) ∧ (∀ k, PE M.X x (rdE M a k)) ∧ ∀ k, PE M.X y (rdE M b k)
  a1 : ∀ {c M}, Fit c M → ∀ x, (chk u).a c [x] = true → ∃ a, u = .cons a .nil ∧ ∀ k, PE M.X x (rdE M a k)
  a0 : ∀ {c : Cfg}, (chk u).a c [] = true → u = .nil
  o : ∀ {c M}, Fit c M → ∀ x, (chk u).o c x = true → PO M.X x (rdO M u)
  i : ∀ {c M}, Fit c M → ∀ tg x, (chk u).i c tg x = true → PI M.X tg x (rdI M u)
  g : ∀ co ci vs elt gens n, (chk u).g co ci vs elt gens n = true →
    (∃ a, u = .gelt a ∧ gens[n]? = none ∧ ∀ Mi, Fit ci Mi → PE Mi.X elt (rdE Mi a 0)) ∨
    (∃ t it cn r tg iter ifs, u = .gfor t it cn r ∧ gens[n]? = some ⟨tg, iter, ifs, 0⟩ ∧ plainX iter = true ∧ (∀ j ∈ t.slots, j ∈ vs) ∧ (∀ Mo, Fit co Mo → PI Mo.X tg iter (rdI Mo it)) ∧
      ∀ Mi, Fit ci Mi → PG Mi.X tg (rdG Mi t) ∧ PTs Mi.X ifs (rdT Mi cn) ∧ ∀ m, m ≤ dep Mi.rd r → GenOk Mi elt gens m vs (n + 1) r)
theorem one_out {f : Cfg → Expr → Bool} {c : Cfg} {xs : List Expr} (h : one f c xs = true) : ∃ x, xs = [x] ∧ f c x = true := by
  unfold one at h
  split at h
  · exact ⟨_, rfl, h⟩
  · cases h
theorem two_out {f : Cfg → Expr → Bool} {g : Cfg → List Expr → Bool} {c : Cfg} {xs : List Expr} (h : two f g c xs = true) : ∃ x y r, xs = x :: y :: r ∧ f c x = true ∧ g c (y :: r) = true := by
  unfold two at h
  split at h
  · rw [Bool.and_eq_true] at h
    exact ⟨_, _, _, rfl, h.1, h.2⟩
  · cases h
theorem val_test {e : E} {c : Cfg} {M : Md} {x : Expr} (h : ∀ k, PE M.X x (rdE M e k)) (ht : plainT x = true) : PT M.X x (rdT M e) :=
  PT.imp (pt_val (h 99) (fun whole => true_plain ht _ _)) fun σ H Q q => t_val q
theorem Snd.val {e : E} {f : Cfg → Expr → Bool} (h : chk e = .val f) (s : ∀ {c M}, Fit c M → ∀ x, f c x = true → ∀ k, PE M.X x (rdE M e k)) : Snd e := by
  have t : ∀ {c M}, Fit c M → ∀ x, (f c x && plainT x) = true → PT M.X x (rdT M e) := fun {c M} fit x hx => by
    rw [Bool.and_eq_true] at hx
    exact val_test (c := c) (s fit x hx.1) hx.2
  constructor
  case e => rw [h]; exact fun fit x hx k => s fit x hx k
  case t => rw [h]; exact fun fit x hx => t fit x hx
  case wa =>
    rw [h]
    intro c M fit xs hx pos
    obtain ⟨x, rfl, hx⟩ := one_out (f := fun c x => f c x && plainT x) hx
    exact pw_and1 (t fit x hx)
  case wo =>
    rw [h]
    intro c M fit xs hx pos
    obtain ⟨x, rfl, hx⟩ := one_out (f := fun c x => f c x && plainT x) hx
    exact pw_or1 (t fit x hx)
  case va =>
    rw [h]
    intro c M fit xs hx pos k
    obtain ⟨x, rfl, hx⟩ := one_out hx
    exact pe_one (s fit x hx k)
  case vo =>
    rw [h]
    intro c M fit xs hx pos k
    obtain ⟨x, rfl, hx⟩ := one_out hx
    exact pe_one (s fit x hx k)
  all_goals (rw [h]; intros; exact absurd ‹_ = true› Bool.false_ne_true)
theorem Snd.tst {e : E} {f t : Cfg → Expr → Bool} (h : chk e = .tst f t) (s : ∀ {c M}, Fit c M → ∀ x, f c x = true → ∀ k, PE M.X x (rdE M e k)) (t : ∀ {c M}, Fit c M → ∀ x, t c x = true → PT M.X x (rdT M e)) : Snd e := by
  constructor
  case e => rw [h]; exact fun fit x hx k => s fit x hx k
  case t => rw [h]; exact fun fit x hx => t fit x hx
  case wa =>
    rw [h]
    intro c M fit xs hx pos
    obtain ⟨x, rfl, hx⟩ := one_out hx
    exact pw_and1 (t fit x hx)
  case wo =>
    rw [h]
    intro c M fit xs hx pos
    obtain ⟨x, rfl, hx⟩ := one_out hx
    exact pw_or1 (t fit x hx)
  case va =>
    rw [h]
    intro c M fit xs hx pos k
    obtain ⟨x, rfl, hx⟩ := one_out hx
    exact pe_one (s fit x hx k)
  case vo =>
    rw [h]
    intro c M fit xs hx pos k
    obtain ⟨x, rfl, hx⟩ := one_out hx
    exact pe_one (s fit x hx k)
  all_goals (rw [h]; intros; exact absurd ‹_ = true› Bool.false_ne_true)
theorem Snd.no {e : E} (h : chk e = {}) : Snd e := by
  constructor
  all_goals (rw [h]; intros; exact absurd ‹_ = true› Bool.false_ne_true)
end Hx
namespace L2
theorem PE.imp {X : Cx} {e : PySem.Expr} {t u : TE} (h : PE X e t) (f : ∀ σ H Q, u σ H Q → t σ H Q) : PE X e u := Hx.PE.imp h f
theorem PT.imp {X : Cx} {e : PySem.Expr} {t u : TT} (h : PT X e t) (f : ∀ σ H Q, u σ H Q → t σ H Q) : PT X e u := Hx.PT.imp h f
theorem PW.imp {X : Cx} {e : PySem.Expr} {t u : TT} (h : PW X e t) (f : ∀ σ H Q, u σ H Q → t σ H Q) : PW X e u := Hx.PW.imp h f
theorem PA.imp {X : Cx} {es : List PySem.Expr} {t u : TA} (h : PA X es t) (f : ∀ σ H Q, u σ H Q → t σ H Q) : PA X es u := Hx.PA.imp h f
theorem PO.imp {X : Cx} {oe : Option PySem.Expr} {t u : TO} (h : PO X oe t) (f : ∀ σ H Q, u σ H Q → t σ H Q) : PO X oe u := Hx.PO.imp h f
theorem PI.imp {X : Cx} {tg e : PySem.Expr} {t u : TI} (h : PI X tg e t) (f : ∀ σ H R, u σ H R → t σ H R) : PI X tg e u := Hx.PI.imp h f
end L2
namespace Hx
open PySem PySem.Spec PyProof.Rows L2
theorem cst_pe {M : Md} {d : D} {k0 : Const} {j : Nat} {pos : Pos} (h : cstB d k0 = true) (k : Nat) : PE M.X (.Constant k0 j pos) (rdE M (.cst d) k) := by
  unfold cstB at h
  split at h
  · exact pe_non.imp fun σ H Q q => x_non q
  · have := eq_of_beq h; subst this; exact pe_bl.imp fun σ H Q q => x_bl q
  · have := of_decide_eq_true h; subst this; exact pe_int.imp fun σ H Q q => x_int q
  · have := of_decide_eq_true h; subst this; exact pe_str.imp fun σ H Q q => x_str q
  · cases h
theorem y_var (i : Nat) : Snd (.var i) := Snd.val rfl fun {c M} f x h k => by
  split at h
  · exact (f.var h).imp fun σ H Q q => x_var q
  · cases h
theorem y_cst (d : D) : Snd (.cst d) := Snd.val rfl fun {c M} f x h k => by
  split at h
  · exact cst_pe h k
  · cases h
theorem y_glb (d : D) : Snd (.glb d) := Snd.val rfl fun {c M} f x h k => by
  split at h
  · rename_i n pos
    rw [Bool.and_eq_true] at h
    obtain ⟨h1, h2⟩ := f.gl h.1
    have h3 := h.2
    unfold glbB at h3
    split at h3
    · rename_i e
      have := of_decide_eq_true h3; subst this
      obtain ⟨u, v, g1, g2, g3⟩ := f.glb _ _ e
      cases g2
      exact (pe_glob h1 g1 g3 h2).imp fun σ H Q q => x_gint q
    · rename_i e
      have := of_decide_eq_true h3; subst this
      obtain ⟨u, v, g1, g2, g3⟩ := f.glb _ _ e
      cases g2
      exact (pe_glob h1 g1 g3 h2).imp fun σ H Q q => x_gstr q
    · cases h3
  · cases h
theorem y_tup {as : E} (s : Snd as) : Snd (.tup as) := Snd.val rfl fun {c M} f x h k => by
  split at h
  · rw [Bool.and_eq_true, decide_eq_true_eq] at h
    exact (pe_tup ((s.a f _ h.1).1 0 (Nat.zero_le _))).imp fun σ H Q q => x_tup h.2 q
  · cases h
theorem y_lst {as : E} (s : Snd as) : Snd (.lst as) := Snd.val rfl fun {c M} f x h k => by
  split at h
  · rw [Bool.and_eq_true, decide_eq_true_eq] at h
    exact (pe_lst ((s.a f _ h.1).1 _ (Nat.le_refl _))).imp fun σ H Q q => x_lst h.2 q
  · cases h
theorem y_bin {o : Bop} {a b : E} (sa : Snd a) (sb : Snd b) : Snd (.bin o a b) := Snd.val rfl fun {c M} f x h k => by
  split at h
  · rw [Bool.and_eq_true, Bool.and_eq_true, decide_eq_true_eq] at h
    obtain ⟨⟨rfl, h1⟩, h2⟩ := h
    exact (pe_op (opBin o) (sa.e f _ h1 1) (sb.e f _ h2 1)).imp fun σ H Q q => x_bin q
  · cases h
theorem y_neg {a : E} (sa : Snd a) : Snd (.neg a) := Snd.val rfl fun {c M} f x h k => by
  split at h
  · exact (pe_un un_neg (sa.e f _ h 99)).imp fun σ H Q q => x_neg q
  · cases h
theorem y_not {a : E} (sa : Snd a) : Snd (.not a) := Snd.tst rfl (fun {c M} f x h k => by
  split at h
  · exact (pe_not (sa.e f _ h 99)).imp fun σ H Q q => t_val (x_not q)
  · cases h) fun {c M} f x h => by
  split at h
  · exact (pt_not (sa.t f _ h)).imp fun σ H Q q => t_not q
  · cases h
theorem y_ife {d a b : E} (sd : Snd d) (sa : Snd a) (sb : Snd b) : Snd (.ife d a b) := Snd.val rfl fun {c M} f x h k => by
  split at h
  · rw [Bool.and_eq_true, Bool.and_eq_true] at h
    exact (pe_ifExp (sd.t f _ h.1.1) (sa.e f _ h.1.2 k) (sb.e f _ h.2 k)).imp fun σ H Q q => x_ife q
  · cases h
theorem y_cmp {o : Cop} {a b : E} (sa : Snd a) (sb : Snd b) : Snd (.cmp o a b) := Snd.tst rfl (fun {c M} f x h k => by
  split at h
  · simp only [Bool.and_eq_true, decide_eq_true_eq] at h
    obtain ⟨⟨⟨rfl, h1⟩, h2⟩, h3⟩ := h
    exact (pe_cmpR (opCmp f.hu o) (sa.e f _ h1 99) (sb.e f _ h2 99) (beh_plain h3)).imp fun σ H Q q => x_cmp q
  · cases h) fun {c M} f x h => by
  split at h
  · simp only [Bool.and_eq_true, decide_eq_true_eq] at h
    obtain ⟨⟨⟨rfl, h1⟩, h2⟩, h3⟩ := h
    exact (pt_cmpR (opCmp f.hu o) (sa.e f _ h1 99) (sb.e f _ h2 99) (beh_plain h3)).imp fun σ H Q q => x_cmp (t_val q)
  · cases h
theorem y_chn {o p : Cop} {a b d : E} (sa : Snd a) (sb : Snd b) (sd : Snd d) : Snd (.chn o p a b d) := Snd.tst rfl (fun {c M} f x h k => by
  split at h
  · simp only [Bool.and_eq_true, decide_eq_true_eq] at h
    obtain ⟨⟨⟨⟨⟨⟨rfl, rfl⟩, h1⟩, h2⟩, h3⟩, h4⟩, h5⟩ := h
    exact (pe_chain (opCmp f.hu o) (opCmp f.hu p) (sa.e f _ h1 99) (sb.e f _ h2 99) (sd.e f _ h3 99) (by unfold lastMarks lastMarks; exact beh_plain h5)).imp fun σ H Q q => x_chn q
  · cases h) fun {c M} f x h => by
  split at h
  · simp only [Bool.and_eq_true, decide_eq_true_eq] at h
    obtain ⟨⟨⟨⟨⟨⟨rfl, rfl⟩, h1⟩, h2⟩, h3⟩, h4⟩, h5⟩ := h
    exact (pt_chain (opCmp f.hu o) (opCmp f.hu p) (sa.e f _ h1 99) (sb.e f _ h2 99) (sd.e f _ h3 99) (by unfold lastMarks lastMarks; exact beh_plain h5)).imp fun σ H Q q => x_chn (t_val q)
  · cases h
theorem star_args {xs : List Expr} (h : xs.all plainX = true) (env : Env) : (starEach xs env).any (·.1) = false := by
  induction xs with
  | nil => rfl
  | cons x xs ih =>
    rw [List.all_cons, Bool.and_eq_true] at h
    rw [star_plain h.1, List.any_cons, ih h.2]
    rfl
theorem back_args {xs : List Expr} (h : xs.all plainX = true) (env : Env) (pos : Pos) : (backTo pos (starEach xs env)).any (·.1) = false := by
  unfold backTo
  rw [List.any_map]
  exact star_args h env
theorem y_call {i : Nat} {as : E} (s : Snd as) : Snd (.call i as) := Snd.val rfl fun {c M} f x h k => by
  split at h
  · rename_i n p1 y ys p2
    simp only [Bool.and_eq_true, decide_eq_true_eq] at h
    obtain ⟨⟨h1, h2⟩, h3⟩ := h
    obtain ⟨g1, g2⟩ := f.gl h1
    obtain ⟨fa, fd, ps, j, F, hr, hm, hk, hb⟩ := (f.fns _ _ _ h2).ex
    obtain ⟨k1, k2, k3, k4⟩ := s.a f _ h3
    rw [List.all_cons, Bool.and_eq_true] at k4
    exact (pe_callS F hr g1 hm hk hb (fun σ => passAt f.tk σ) (k1 0 (Nat.zero_le _)) g2 (star_plain k4.1 _ _) (back_args k4.2 _ _)).imp fun σ H Q q => x_call rfl q
  · cases h
theorem y_draw {a b : E} (sa : Snd a) (sb : Snd b) : Snd (.draw a b) := Snd.val rfl fun {c M} f x h k => by
  split at h
  · rename_i n p1 u v p2
    simp only [Bool.and_eq_true, decide_eq_true_eq] at h
    obtain ⟨⟨⟨⟨⟨⟨rfl, h1⟩, h2⟩, h3⟩, h4⟩, h5⟩, h6⟩ := h
    obtain ⟨g1, g2⟩ := f.gl h2
    obtain ⟨fa, fd, ps, j, F, hr, hm, hk, hb⟩ := (f.law h1).1.ex
    exact (pe_callS F hr g1 hm hk hb (fun σ => passAt f.tk σ) (pa_cons (sa.e f _ h3 99) (pa_cons (sb.e f _ h4 99) pa_nil (star_plain h6 _ _)) (star_plain h5 _ _)) g2 (star_plain h5 _ _) (back_args (by simp [h6]) _ _)).imp fun σ H Q q => x_draw q
  · cases h
theorem y_mkt {a : E} (sa : Snd a) : Snd (.mkt a) := Snd.val rfl fun {c M} f x h k => by
  split at h
  · rename_i n p1 u p2
    simp only [Bool.and_eq_true, decide_eq_true_eq] at h
    obtain ⟨⟨⟨⟨rfl, h1⟩, h2⟩, h3⟩, h5⟩ := h
    obtain ⟨g1, g2⟩ := f.gl h2
    obtain ⟨fa, fd, ps, j, F, hr, hm, hk, hb⟩ := (f.law h1).2.ex
    exact (pe_callS F hr g1 hm hk hb (fun σ => passAt f.tk σ) (pa_cons (sa.e f _ h3 99) pa_nil (star_plain h5 _ _)) g2 (star_plain h5 _ _) (back_args (by simp) _ _)).imp fun σ H Q q => x_mkt q
  · cases h
theorem y_idx {a b : E} (sa : Snd a) (sb : Snd b) : Snd (.idx a b) := Snd.val rfl fun {c M} f x h k => by
  split at h
  · simp only [Bool.and_eq_true] at h
    exact (pe_ix (ixGet k) (sa.e f _ h.1.1 (k + 1)) (sb.e f _ h.1.2 99) (ix_plain h.2)).imp fun σ H Q q => x_idx q
  · cases h
theorem y_slc {a b d : E} (sa : Snd a) (sb : Snd b) (sd : Snd d) : Snd (.slc a b d) := Snd.val rfl fun {c M} f x h k => by
  split at h
  · simp only [Bool.and_eq_true] at h
    exact (pe_slice slSlc (sa.e f _ h.1.1 1) (sb.o f _ h.1.2) (sd.o f _ h.2)).imp fun σ H Q q => x_slc q
  · cases h
theorem y_rev {a : E} (sa : Snd a) : Snd (.rev a) := Snd.val rfl fun {c M} f x h k => by
  split at h
  · simp only [Bool.and_eq_true, decide_eq_true_eq] at h
    obtain ⟨h1, rfl⟩ := h
    exact (pe_revL (sa.e f _ h1 1)).imp fun σ H Q q => x_rev q
  · cases h
theorem y_nil : Snd .nil := by
  constructor
  case a =>
    intro c M f xs h
    have h : (match (generalizing := false) xs with | [] => true | _ => false) = true := h
    split at h
    · exact ⟨fun n _ => pa_nil.imp fun σ H Q q => a_nil q, fun ks => pa_nil.imp fun σ H Q q => p_nil q, rfl, rfl⟩
    · cases h
  case a0 => intros; rfl
  case o =>
    intro c M f x h
    have h : (match (generalizing := false) x with | none => true | _ => false) = true := h
    split at h
    · exact po_none.imp fun σ H Q q => o_nil q
    · cases h
  all_goals (intros; exact absurd ‹_ = true› Bool.false_ne_true)
theorem y_cons {a r : E} (sa : Snd a) (sr : Snd r) : Snd (.cons a r) := by
  have go : ∀ {c : Cfg} {xs : List Expr}, (chk (.cons a r)).a c xs = true → ∃ x ys, xs = x :: ys ∧ plainX x = true ∧ (chk a).e c x = true ∧ (chk r).a c ys = true := fun {c xs} h => by
    have h : (match (generalizing := false) xs with | x :: ys => plainX x && (chk a).e c x && (chk r).a c ys | [] => false) = true := h
    split at h
    · simp only [Bool.and_eq_true] at h
      exact ⟨_, _, rfl, h.1.1, h.1.2, h.2⟩
    · cases h
  constructor
  case a =>
    intro c M f xs h
    obtain ⟨x, ys, rfl, h1, h2, h3⟩ := go h
    obtain ⟨k1, k2, k3, k4⟩ := sr.a f _ h3
    refine ⟨fun n hn => ?_, fun ks => ?_, by simp [cnt, k3], by rw [List.all_cons, h1, k4]; rfl⟩
    · have hn : n ≤ min (dep M.rd a) (dep M.rd r) := hn
      exact (pa_cons (sa.e f _ h2 0) (k1 n (by omega)) (star_plain h1 _ _)).imp fun σ H Q q => a_cons (by omega) q
    · exact (pa_cons (sa.e f _ h2 _) (k2 _) (star_plain h1 _ _)).imp fun σ H Q q => p_cons q
  case a2 =>
    intro c M f x y h
    obtain ⟨x', ys, e, h1, h2, h3⟩ := go h
    cases e
    obtain ⟨b, rfl, hb⟩ := sr.a1 f _ h3
    exact ⟨a, b, rfl, fun k => sa.e f _ h2 k, hb⟩
  case a1 =>
    intro c M f x h
    obtain ⟨x', ys, e, h1, h2, h3⟩ := go h
    cases e
    cases sr.a0 h3
    exact ⟨a, rfl, fun k => sa.e f _ h2 k⟩
  case a0 =>
    intro c h
    obtain ⟨x', ys, e, _⟩ := go h
    cases e
  case o =>
    intro c M f x h
    have h : (match (generalizing := false) x with | some y => (chk a).e c y | none => false) = true := h
    split at h
    · exact (po_some (sa.e f _ h 99)).imp fun σ H Q q => o_cons q
    · cases h
  all_goals (intros; exact absurd ‹_ = true› Bool.false_ne_true)
theorem orL_out {f g : Cfg → List Expr → Bool} {c : Cfg} {xs : List Expr} (h : orL f g c xs = true) : f c xs = true ∨ g c xs = true := by
  unfold orL at h
  rw [Bool.or_eq_true] at h
  exact h
theorem y_and {a b : E} (sa : Snd a) (sb : Snd b) : Snd (.and a b) := by
  have E2 : ∀ {c M}, Fit c M → ∀ xs, two (chk a).e (chk b).va c xs = true → ∀ pos k, PE M.X (.BoolOp .And xs pos) (rdE M (.and a b) k) := fun {c M} f xs h pos k => by
    obtain ⟨x, y, r, rfl, h1, h2⟩ := two_out h
    exact (pe_and (sa.e f _ h1 99) (sb.va f _ h2 pos k)).imp fun σ H Q q => x_and q
  have T2 : ∀ {c M}, Fit c M → ∀ xs, two (chk a).t (chk b).wa c xs = true → ∀ pos, PW M.X (.BoolOp .And xs pos) (rdT M (.and a b)) := fun {c M} f xs h pos => by
    obtain ⟨x, y, r, rfl, h1, h2⟩ := two_out h
    exact (pw_and (sa.t f _ h1) (sb.wa f _ h2 pos)).imp fun σ H Q q => t_and q
  have EE : ∀ {c M}, Fit c M → ∀ x, (chk (.and a b)).e c x = true → ∀ k, PE M.X x (rdE M (.and a b) k) := fun {c M} f x h k => by
    have h : (match (generalizing := false) x with | .BoolOp .And xs _ => two (chk a).e (chk b).va c xs | _ => false) = true := h
    split at h
    · exact E2 f _ h _ k
    · cases h
  have TT : ∀ {c M}, Fit c M → ∀ x, (chk (.and a b)).t c x = true → PT M.X x (rdT M (.and a b)) := fun {c M} f x h => by
    have h : (match (generalizing := false) x with | .BoolOp .And xs _ => two (chk a).t (chk b).wa c xs | _ => false) = true := h
    split at h
    · exact (T2 f _ h _).pt
    · cases h
  constructor
  case e => exact EE
  case t => exact TT
  case wa =>
    intro c M f xs h pos
    rcases orL_out (f := one (chk (.and a b)).t) (g := two (chk a).t (chk b).wa) h with h | h
    · obtain ⟨x, rfl, h⟩ := one_out h
      exact pw_and1 (TT f _ h)
    · exact T2 f _ h pos
  case wo =>
    intro c M f xs h pos
    obtain ⟨x, rfl, h⟩ := one_out (f := (chk (.and a b)).t) h
    exact pw_or1 (TT f _ h)
  case va =>
    intro c M f xs h pos k
    rcases orL_out (f := one (chk (.and a b)).e) (g := two (chk a).e (chk b).va) h with h | h
    · obtain ⟨x, rfl, h⟩ := one_out h
      exact pe_one (EE f _ h k)
    · exact E2 f _ h pos k
  case vo =>
    intro c M f xs h pos k
    obtain ⟨x, rfl, h⟩ := one_out (f := (chk (.and a b)).e) h
    exact pe_one (EE f _ h k)
  all_goals (intros; exact absurd ‹_ = true› Bool.false_ne_true)
theorem y_or {a b : E} (sa : Snd a) (sb : Snd b) : Snd (.or a b) := by
  have E2 : ∀ {c M}, Fit c M → ∀ xs, two (chk a).e (chk b).vo c xs = true → ∀ pos k, PE M.X (.BoolOp .Or xs pos) (rdE M (.or a b) k) := fun {c M} f xs h pos k => by
    obtain ⟨x, y, r, rfl, h1, h2⟩ := two_out h
    exact (pe_or (sa.e f _ h1 99) (sb.vo f _ h2 pos k)).imp fun σ H Q q => x_or q
  have T2 : ∀ {c M}, Fit c M → ∀ xs, two (chk a).t (chk b).wo c xs = true → ∀ pos, PW M.X (.BoolOp .Or xs pos) (rdT M (.or a b)) := fun {c M} f xs h pos => by
    obtain ⟨x, y, r, rfl, h1, h2⟩ := two_out h
    exact (pw_or (sa.t f _ h1) (sb.wo f _ h2 pos)).imp fun σ H Q q => t_or q
  have EE : ∀ {c M}, Fit c M → ∀ x, (chk (.or a b)).e c x = true → ∀ k, PE M.X x (rdE M (.or a b) k) := fun {c M} f x h k => by
    have h : (match (generalizing := false) x with | .BoolOp .Or xs _ => two (chk a).e (chk b).vo c xs | _ => false) = true := h
    split at h
    · exact E2 f _ h _ k
    · cases h
  have TT : ∀ {c M}, Fit c M → ∀ x, (chk (.or a b)).t c x = true → PT M.X x (rdT M (.or a b)) := fun {c M} f x h => by
    have h : (match (generalizing := false) x with | .BoolOp .Or xs _ => two (chk a).t (chk b).wo c xs | _ => false) = true := h
    split at h
    · exact (T2 f _ h _).pt
    · cases h
  constructor
  case e => exact EE
  case t => exact TT
  case wo =>
    intro c M f xs h pos
    rcases orL_out (f := one (chk (.or a b)).t) (g := two (chk a).t (chk b).wo) h with h | h
    · obtain ⟨x, rfl, h⟩ := one_out h
      exact pw_or1 (TT f _ h)
    · exact T2 f _ h pos
  case wa =>
    intro c M f xs h pos
    obtain ⟨x, rfl, h⟩ := one_out (f := (chk (.or a b)).t) h
    exact pw_and1 (TT f _ h)
  case vo =>
    intro c M f xs h pos k
    rcases orL_out (f := one (chk (.or a b)).e) (g := two (chk a).e (chk b).vo) h with h | h
    · obtain ⟨x, rfl, h⟩ := one_out h
      exact pe_one (EE f _ h k)
    · exact E2 f _ h pos k
  case va =>
    intro c M f xs h pos k
    obtain ⟨x, rfl, h⟩ := one_out (f := (chk (.or a b)).e) h
    exact pe_one (EE f _ h k)
  all_goals (intros; exact absurd ‹_ = true› Bool.false_ne_true)
end Hx
namespace Hx
open PySem PySem.Spec PyProof.Rows L2
theorem bt_len : bootBuiltins "len" = some (.builtin "len") := by decide +kernel
theorem bt_all : bootBuiltins "all" = some (.builtin "all") := by decide +kernel
theorem bt_any : bootBuiltins "any" = some (.builtin "any") := by decide +kernel
theorem bt_sum : bootBuiltins "sum" = some (.builtin "sum") := by decide +kernel
theorem bt_max : bootBuiltins "max" = some (.builtin "max") := by decide +kernel
theorem bt_min : bootBuiltins "min" = some (.builtin "min") := by decide +kernel
theorem bt_sorted : bootBuiltins "sorted" = some (.builtin "sorted") := by decide +kernel
theorem bt_isi : bootBuiltins "isinstance" = some (.builtin "isinstance") := by decide +kernel
theorem bt_ty (t : Ty) : bootBuiltins (tyNm t) = some (.type t.nm) := by cases t <;> decide +kernel
theorem y_prm {p : Prim} {as : E} (s : Snd as) : Snd (.prm p as) := Snd.val rfl fun {c M} f x h k => by
  split at h
  · rename_i n p1 y ys p2
    simp only [Bool.and_eq_true, decide_eq_true_eq] at h
    obtain ⟨⟨h1, h2⟩, h3⟩ := h
    obtain ⟨g1, g2, g3, g4⟩ := f.blt h2
    obtain ⟨k1, k2, k3, k4⟩ := s.a f _ h3
    rw [List.all_cons, Bool.and_eq_true] at k4
    have st := star_plain k4.1 ys M.X.env
    have bk := back_args k4.2 M.X.env p2
    have fin : PE M.X (.Call (.Name n p1) (y :: ys) [] p2) (tCB (rPrm M.X.K M.X.w M.C p) (rdP M as p.look)) → PE M.X (.Call (.Name n p1) (y :: ys) [] p2) (rdE M (.prm p as) k) := fun hh => hh.imp fun σ H Q q => x_prm q
    refine fin ?_
    cases p <;> (first | (cases h1; done) | skip)
    case len => cases h1; exact pe_callB c_len g1 g2 bt_len (k2 _) g3 g4 st bk
    case tuple => cases h1; exact pe_callTy c_tuple g1 g2 (bt_ty .tuple) (k2 _) g3 g4 st bk
    case list => cases h1; exact pe_callTy c_list g1 g2 (bt_ty .list) (k2 _) g3 g4 st bk
    case sorted => cases h1; exact pe_callB (c_sorted f.hu) g1 g2 bt_sorted (k2 _) g3 g4 st bk
    case all => cases h1; exact pe_callB (c_all f.calm) g1 g2 bt_all (k2 _) g3 g4 st bk
    case any => cases h1; exact pe_callB (c_any f.calm) g1 g2 bt_any (k2 _) g3 g4 st bk
    case sum => cases h1; exact pe_callB (c_sum f.calm) g1 g2 bt_sum (k2 _) g3 g4 st bk
    case max => cases h1; exact pe_callB (c_max f.calm f.hu) g1 g2 bt_max (k2 _) g3 g4 st bk
    case min => cases h1; exact pe_callB (c_min f.calm f.hu) g1 g2 bt_min (k2 _) g3 g4 st bk
    case max2 => cases h1; exact pe_callB (c_max2 f.calm) g1 g2 bt_max (k2 _) g3 g4 st bk
    case min2 => cases h1; exact pe_callB (c_min2 f.calm) g1 g2 bt_min (k2 _) g3 g4 st bk
    case str => cases h1; exact pe_callTy c_str g1 g2 (bt_ty .str) (k2 _) g3 g4 st bk
  · cases h
theorem y_isi {a : E} {t : Ty} (sa : Snd a) : Snd (.isi a t) := Snd.val rfl fun {c M} f x h k => by
  split at h
  · simp only [Bool.and_eq_true, decide_eq_true_eq] at h
    obtain ⟨⟨⟨⟨⟨rfl, h2⟩, rfl⟩, h4⟩, h5⟩, h6⟩ := h
    obtain ⟨g1, g2, g3, g4⟩ := f.blt h2
    obtain ⟨k1, k2, k3, k4⟩ := f.blt h4
    have pt : ∀ {pos}, PE M.X (.Name (tyNm t) pos) (tC (.ty t.nm)) := fun {pos} => pe_bltn k1 k2 (bt_ty t) rfl k3 k4
    exact (pe_callB call_isi g1 g2 bt_isi (pa_cons (sa.e f _ h5 99) (pa_cons pt pa_nil) (star_plain h6 _ _)) g3 g4 (star_plain h6 _ _) rfl).imp fun σ H Q q => x_isi q
  · cases h
theorem y_iit {a : E} (sa : Snd a) : Snd (.iit a) := by
  constructor
  case i =>
    intro c M f tg x h
    exact (pi_iter (sa.e f _ h 0) itIter).imp fun σ H R q => i_iit q
  all_goals (intros; exact absurd ‹_ = true› Bool.false_ne_true)
theorem y_ienu {a : E} (sa : Snd a) : Snd (.ienu a) := by
  constructor
  case i =>
    intro c M f tg x h
    replace h : (match (generalizing := false) x with
      | .Call (.Name n _) [y] [] _ => decide (n = "enumerate") && isBl c n && (chk a).e c y && plainX y && (match (generalizing := false) tg with
        | .Tuple _ _ _ => true
        | _ => false)
      | _ => false) = true := h
    split at h
    · simp only [Bool.and_eq_true, decide_eq_true_eq] at h
      obtain ⟨⟨⟨⟨rfl, h2⟩, h3⟩, h4⟩, h5⟩ := h
      obtain ⟨g1, g2, g3, g4⟩ := f.blt h2
      split at h5
      · exact (pi_enumV (C := M.C) g1 g2 (sa.e f _ h3 0) (star_plain h4 _ _)).imp fun σ H R q => i_enu q
      · cases h5
    · cases h
  all_goals (intros; exact absurd ‹_ = true› Bool.false_ne_true)
theorem y_irng {as : E} (s : Snd as) : Snd (.irng as) := by
  constructor
  case i =>
    intro c M f tg x h
    replace h : (match (generalizing := false) x with
      | .Call (.Name n _) (y :: ys) [] _ => decide (n = "range") && isBl c n && (chk as).a c (y :: ys) && decide (cnt as ≤ 3)
      | _ => false) = true := h
    split at h
    · rename_i n p1 y ys p2
      simp only [Bool.and_eq_true, decide_eq_true_eq] at h
      obtain ⟨⟨⟨rfl, h2⟩, h3⟩, h4⟩ := h
      obtain ⟨g1, g2, g3, g4⟩ := f.blt h2
      obtain ⟨k1, k2, k3, k4⟩ := s.a f _ h3
      have hA := k1 0 (Nat.zero_le _)
      rw [← k3] at h4
      match ys, k3, k4, hA, h4 with
      | [], k3, k4, hA, h4 =>
        simp only [List.all_cons, List.all_nil, Bool.and_eq_true] at k4
        exact (pi_range1 g1 g2 hA (by rw [star_plain k4.1]; rfl)).imp fun σ H R q => by
          obtain ⟨s, fps, G, o, r⟩ := i_rng q
          exact ⟨s, fps, G, o, r.imp fun ds s1 H1 G1 fps1 _ o1 st1 z vs fp ow fr => (z vs fp ow fr).1 k3.symm⟩
      | [b], k3, k4, hA, h4 =>
        simp only [List.all_cons, List.all_nil, Bool.and_eq_true] at k4
        exact (pi_range2 g1 g2 hA (by rw [star_plain k4.1, star_plain k4.2.1]; rfl) (by rw [star_plain k4.2.1]; rfl)).imp fun σ H R q => by
          obtain ⟨s, fps, G, o, r⟩ := i_rng q
          exact ⟨s, fps, G, o, r.imp fun ds s1 H1 G1 fps1 _ o1 st1 z vs fp ow fr => (z vs fp ow fr).2.1 k3.symm⟩
      | [b, d], k3, k4, hA, h4 =>
        simp only [List.all_cons, List.all_nil, Bool.and_eq_true] at k4
        exact (pi_range3 g1 g2 hA (by rw [star_plain k4.1]) (by rw [star_plain k4.2.1, star_plain k4.2.2.1]; rfl)).imp fun σ H R q => by
          obtain ⟨s, fps, G, o, r⟩ := i_rng q
          exact ⟨s, fps, G, o, r.imp fun ds s1 H1 G1 fps1 _ o1 st1 z vs fp ow fr => (z vs fp ow fr).2.2 k3.symm⟩
      | _ :: _ :: _ :: _, k3, k4, hA, h4 => simp at h4
    · cases h
  all_goals (intros; exact absurd ‹_ = true› Bool.false_ne_true)
theorem y_gelt {a : E} (sa : Snd a) : Snd (.gelt a) := by
  constructor
  case g =>
    intro co ci vs elt gens n h
    have h : ((gens[n]?).isNone && (chk a).e ci elt) = true := h
    rw [Bool.and_eq_true, Option.isNone_iff_eq_none] at h
    exact .inl ⟨a, rfl, h.1, fun Mi f => sa.e f _ h.2 0⟩
  all_goals (intros; exact absurd ‹_ = true› Bool.false_ne_true)
end Hx
namespace Hx
open PySem PySem.Spec PyProof.Rows L2
theorem tg_all {c : Cfg} {M : Md} (f : Fit c M) : ∀ t : Tg, (∀ tg, tgB c t tg = true → PG M.X tg (rdG M t) ∧ ∀ xs env, assignEach (tg :: xs) env = (false, assign tg env) :: assignEach xs env) ∧
    (∀ xs, tgB.tgsB c t xs = true → PGs M.X xs (rdGs M t) ∧ t.chain = true ∧ (assignEach xs M.X.env).length = t.cnt ∧ (assignEach xs M.X.env).findIdx? (·.1) = none) := by
  intro t
  induction t with
  | v i =>
    refine ⟨fun tg h => ?_, fun xs h => ?_⟩
    · unfold tgB at h
      split at h
      · rename_i e
        cases e
        rw [Bool.and_eq_true, decide_eq_true_eq] at h
        obtain ⟨g1, g2⟩ := f.st h.2
        refine ⟨⟨fun pins s σ H v u Q I r q => (pg_name (by rw [f.N]; exact f.nd) (by rw [f.N]; exact h.1) g1 g2).run pins s σ H v u Q I r (g_v q)⟩, fun xs env => rfl⟩
      · rename_i e; cases e
      · cases h
    · cases xs <;> cases h
  | nil =>
    refine ⟨fun tg h => ?_, fun xs h => ?_⟩
    · unfold tgB at h; cases h
    · cases xs with
      | nil => exact ⟨⟨fun pins s σ H v u Q I r q => pgs_nil.run pins s σ H v u Q I r (gs_nil q)⟩, rfl, rfl, rfl⟩
      | cons _ _ => cases h
  | dr =>
    refine ⟨fun tg h => ?_, fun xs h => ?_⟩
    · unfold tgB at h; cases h
    · cases xs <;> cases h
  | cons t r iht ihr =>
    have L : ∀ xs, tgB.tgsB c (.cons t r) xs = true → PGs M.X xs (rdGs M (.cons t r)) ∧ (Tg.cons t r).chain = true ∧ (assignEach xs M.X.env).length = (Tg.cons t r).cnt ∧ (assignEach xs M.X.env).findIdx? (·.1) = none := fun xs h => by
      cases xs with
      | nil => cases h
      | cons x xs =>
        have h : (tgB c t x && tgB.tgsB c r xs) = true := h
        rw [Bool.and_eq_true] at h
        obtain ⟨p1, p2⟩ := iht.1 x h.1
        obtain ⟨q1, q2, q3, q4⟩ := ihr.2 xs h.2
        refine ⟨⟨fun pins s σ H v u Q I rr q => (pgs_cons p1 q1 (by rw [p2]; rfl)).run pins s σ H v u Q I rr (gs_cons q)⟩, q2, by rw [p2, List.length_cons, q3]; rfl, ?_⟩
        rw [p2, List.findIdx?_cons, q4]
        rfl
    refine ⟨fun tg h => ?_, L⟩
    have h : (match (generalizing := false) tg with
      | .Tuple es _ _ => tgB.tgsB c (.cons t r) es
      | _ => false) = true := by
      unfold tgB at h
      split at h
      · rename_i e; cases e
      · rename_i es _ _ e
        cases e
        cases es <;> exact h
      · cases h
    split at h
    · rename_i es kk pos _
      obtain ⟨q1, q2, q3, q4⟩ := L _ h
      exact ⟨⟨fun pins s σ H v u Q I rr q => (pg_tup f.calm q1 q3 q4).run pins s σ H v u Q I rr (g_tup q2 (fun z => nomatch z) q)⟩, fun xs env => rfl⟩
    · cases h
theorem all_mem {vs us : List Nat} (h : us.all (fun j => decide (j ∈ vs)) = true) : ∀ j ∈ us, j ∈ vs := fun j hj => of_decide_eq_true (List.all_eq_true.mp h j hj)
theorem yes_pt {M : Md} {ci : Cfg} (f : Fit ci M) : PTs M.X [] (rdT M (.cst (.bl true))) := ⟨fun pins s σ H Q I q => pts_nil.run pins s σ H Q I (by
  obtain ⟨st, fps, G, o, r⟩ := q
  obtain ⟨b, e, q⟩ := r H G fps o .refl
  cases e
  exact q)⟩
theorem y_gfor {t : Tg} {it cn r : E} (si : Snd it) (sc : Snd cn) (sr : Snd r) : Snd (.gfor t it cn r) := by
  constructor
  case g =>
    intro co ci vs elt gens n h
    replace h : (match (generalizing := false) gens[n]? with
      | some ⟨tg, iter, ifs, as⟩ => decide (as = 0) && (chk it).i co tg iter && plainX iter && tgB ci t tg && t.slots.all (fun j => decide (j ∈ vs)) && (match (generalizing := false) ifs with
        | [] => (match (generalizing := false) cn with
          | .cst (.bl true) => true
          | _ => false)
        | [x] => (chk cn).t ci x
        | _ => false) && (chk r).g ci ci vs elt gens (n + 1)
      | none => false) = true := h
    cases eg : gens[n]? with
    | none => rw [eg] at h; cases h
    | some gg =>
      obtain ⟨tg, iter, ifs, as⟩ := gg
      rw [eg] at h
      simp only [Bool.and_eq_true, decide_eq_true_eq] at h
      obtain ⟨⟨⟨⟨⟨⟨rfl, h2⟩, h3⟩, h4⟩, h5⟩, h6⟩, h7⟩ := h
      refine .inr ⟨t, it, cn, r, tg, iter, ifs, rfl, rfl, h3, all_mem h5, fun Mo fo => si.i fo _ _ h2, fun Mi fi => ⟨((tg_all fi t).1 tg h4).1, ?_, ?_⟩⟩
      · split at h6
        · split at h6
          · exact yes_pt fi
          · cases h6
        · exact pts_one (sc.t fi _ h6)
        · cases h6
      · intro m hm
        rcases sr.g ci ci vs elt gens (n + 1) h7 with ⟨a, rfl, e1, e2⟩ | ⟨t', it', cn', r', tg', iter', ifs', rfl, e1, e2, e3, e4, e5⟩
        · exact ⟨e1, hm, e2 Mi fi⟩
        · obtain ⟨k1, k2, k3⟩ := e5 Mi fi
          exact ⟨tg', iter', ifs', e1, fun env x => fold_plain e2 env x, e4 Mi fi, k1, k2, e3, k3 m hm⟩
  all_goals (intros; exact absurd ‹_ = true› Bool.false_ne_true)
/-- what a comprehension's check gives -/
theorem comp_use {vs : List Nat} {g : E} (sg : Snd g) {c : Cfg} {M : Md} (f : Fit c M) {elt : Expr} {gens : List Comprehension} {sc : Scope} {pos pos' : Pos} (hg : gens ≠ []) (hb : blkB c sc vs = true) (ha : gens.all (fun g => decide (g.is_async = 0) && plainX g.iter) = true)
    (hk : (chk g).g c (c.blk sc) vs elt gens 0 = true) {pins : List (Addr × Obj)} {s : Shared} {σ : L2.St} {H : Hp} {Q : VK} {k : Nat} {use : Option (Value → PySem.Sem Unit)} {Qf : Value → Shared → Prop} (I : Inv M.X pins σ H s)
    (h : rdE M (.comp vs g) k σ H Q)
    (hRR : ∀ D C s' m H', Inv M.X pins σ H' s' → Q (.ref D) H' → s'.heap.Ns C m → FpOk M.X pins H' C → compPost (model M.X.prog M.X.w) M.X.A M.X.xe use Qf (.ref D) C (.ok .next) s') :
    wpAny (model M.X.prog M.X.w) M.X.A (comprehension (.ListComp elt gens sc pos) sc M.X.env pos' (newList []) false (firstIter gens M.X.env) use) Qf M.X.xe s := by
  obtain ⟨b1, b2⟩ := blk_ok hb
  rcases sg.g c (c.blk sc) vs elt gens 0 hk with ⟨a, rfl, e1, e2⟩ | ⟨t, it, cn, r, tg, iter, ifs, rfl, e1, e2, e3, e4, e5⟩
  · cases gens with
    | nil => exact absurd rfl hg
    | cons _ _ => cases e1
  · cases gens with
    | nil => exact absurd rfl hg
    | cons g0 rest =>
      cases e1
      rw [List.all_cons, Bool.and_eq_true] at ha
      have hr : ∀ g ∈ rest, g.is_async = 0 ∧ plainX g.iter = true := fun g hg => by
        have := List.all_eq_true.mp ha.2 g hg
        simpa only [Bool.and_eq_true, decide_eq_true_eq] using this
      rw [← b2] at h
      exact comp_core f.calm (by rw [f.N]; exact f.nd) I (e4 M f) (by rw [f.N, f.sc]; exact b1) (fun env x => fold_plain e2 env x) (fun g hg => (hr g hg).1) (fun g hg env x => fold_plain (hr g (List.mem_of_getElem? hg)).2 env x) (by rw [b2]; exact e3)
        (fun s H A0 cl fp => by
          obtain ⟨k1, k2, k3⟩ := e5 _ (f.blk (s := s) (H := H) (A0 := A0) (cl := cl) (fp := fp) hb)
          exact ⟨k1, k2, by rw [b2]; exact k3 _ (Nat.le_refl _)⟩) h hRR
theorem async_no {gens : List Comprehension} (ha : gens.all (fun g => decide (g.is_async = 0) && plainX g.iter) = true) : firstAsync gens = false := by
  cases gens with
  | nil => rfl
  | cons g r =>
    rw [List.all_cons, Bool.and_eq_true, Bool.and_eq_true, decide_eq_true_eq] at ha
    obtain ⟨tg, it, ifs, as⟩ := g
    have : as = 0 := ha.1.1
    subst this
    rfl
theorem y_comp {vs : List Nat} {g : E} (sg : Snd g) : Snd (.comp vs g) := Snd.val rfl fun {c M} f x h k => by
  split at h
  · rename_i elt gens sc pos
    simp only [Bool.and_eq_true] at h
    obtain ⟨⟨⟨h1, h2⟩, h3⟩, h4⟩ := h
    refine ⟨fun pins s σ H Q I q => ?_⟩
    rw [eval_ListComp, async_no h3]
    refine comp_use (use := none) (Qf := EP M.X pins σ Q) sg f (fun e => by rw [e] at h1; cases h1) h2 h3 h4 I q fun D C s' m H' I' q hn ff => ⟨m, hn, fun h'' sb => ?_⟩
    obtain ⟨f0, f1, f2, f3, f4, f5⟩ := ff
    exact ⟨.ref D, H', I'.turned (t' := s'.toks) (fun b o hb e => (sb.2 b hb).trans e) f0 f1 f3 f4 f5, rfl, q⟩
  · cases h
/-- ALL TERMS -/
theorem snd : ∀ u : E, Snd u := by
  intro u
  induction u with
  | var i => exact y_var i
  | cst d => exact y_cst d
  | glb d => exact y_glb d
  | tup _ s => exact y_tup s
  | lst _ s => exact y_lst s
  | bin _ _ _ s t => exact y_bin s t
  | neg _ s => exact y_neg s
  | not _ s => exact y_not s
  | and _ _ s t => exact y_and s t
  | or _ _ s t => exact y_or s t
  | ife _ _ _ s t r => exact y_ife s t r
  | cmp _ _ _ s t => exact y_cmp s t
  | chn _ _ _ _ _ s t r => exact y_chn s t r
  | call _ _ s => exact y_call s
  | prm _ _ s => exact y_prm s
  | idx _ _ s t => exact y_idx s t
  | slc _ _ _ s t r => exact y_slc s t r
  | rev _ s => exact y_rev s
  | comp _ _ s => exact y_comp s
  | isi _ _ s => exact y_isi s
  | draw _ _ s t => exact y_draw s t
  | mkt _ s => exact y_mkt s
  | nil => exact y_nil
  | cons _ _ s t => exact y_cons s t
  | irng _ s => exact y_irng s
  | ienu _ s => exact y_ienu s
  | iit _ s => exact y_iit s
  | gfor _ _ _ _ s t r => exact y_gfor s t r
  | gelt _ s => exact y_gelt s
  | _ => exact Snd.no rfl
end Hx
namespace Hx
open PySem PySem.Spec PyProof.Rows L2
structure SCk where
  s : Stmt → Bool
  b : List Stmt → Bool
def SCk.one (f : Stmt → Bool) : SCk := ⟨f, fun xs => match xs with
  | [x] => f x
  | _ => false⟩
/-- is the store's value exchanged with the name (a comprehension on the name's line) -/
def swB (c : Cfg) (x : Str) (p : Pos) (v : Expr) : Bool := match v with
  | .ListComp _ _ sc pos => decide (c.sc.names.lookup x = some .local) && p.line == pos.line && !(sc.names.any fun (n, k) => n == x && (k == .local || k == .cell))
  | _ => false
def isComp : Expr → Bool
  | .ListComp .. => true
  | _ => false
def isTupX : Expr → Bool
  | .Tuple .. => true
  | _ => false
def isCallX : Expr → Bool
  | .Call .. => true
  | _ => false
/-- a path: the name of the slot i and its indexes -/
def pathB (c : Cfg) (i : Nat) (p : E) (x : Expr) : Bool := match x with
  | .Name n _ => isVar c n i && (chk p).a c []
  | .Subscript (.Name n _) b _ => isVar c n i && (chk p).a c [b]
  | .Subscript (.Subscript (.Name n _) b _) b2 _ => isVar c n i && (chk p).a c [b, b2]
  | .Subscript (.Subscript (.Subscript (.Name n _) b _) b2 _) b3 _ => isVar c n i && (chk p).a c [b, b2, b3]
  | _ => false
def chkS (c : Cfg) (exs : List Str) (rd : Nat → Nat) (rn : Nat) : S → SCk
  | .skip => ⟨fun x => (match x with
    | .Pass _ => true
    | _ => false), fun xs => (match xs with
    | [] => true
    | [.Pass _] => true
    | _ => false)⟩
  | .seq x y => ⟨fun _ => false, fun xs => (match xs with
    | a :: r => (chkS c exs rd rn x).s a && (chkS c exs rd rn y).b r
    | [] => false)⟩
  | .asg t e => .one fun x => match x with
    | .Assign [tg] v _ => tgB c t tg && (chk e).e c v && plainX v && (match tg with
      | .Name _ _ => true
      | _ => !isTupX v)
    | _ => false
  | .asgo i _ e => .one fun x => match x with
    | .Assign [tg] v _ => tgB c (.v i) tg && (chk e).e c v && plainX v
    | _ => false
  | .par i _ j _ a b => .one fun x => match x with
    | .Assign [.Tuple [.Name n p1, .Name m p2] _ _] (.Tuple [u, v] _ _) _ => decide (c.N[i]? = some n) && decide (c.N[j]? = some m) && decide (i ≠ j) && decide (c.sc.names.lookup n = some .local) && decide (c.sc.names.lookup m = some .local) &&
      (chk a).e c u && (chk b).e c v && plainX u && plainX v && decide (n ≠ m) && p1.line == p2.line && !([u, v].all (foldedForSure 8)) && !([u, v].all (constantsAlone 8))
    | _ => false
  | .setp i p j e => .one fun x => match x with
    | .Assign [.Subscript o b _] v _ => pathB c i p o && (chk j).e c b && plainX b && (chk e).e c v && plainX v
    | _ => false
  | .app i p e => .one fun x => match x with
    | .Expr (.Call (.Attribute o m apos) [v] [] cpos) _ => decide (m = "append") && pathB c i p o && (chk e).e c v && plainX v && apos.endLine == cpos.line && !isCallX o
    | _ => false
  | .pop t i p j => .one fun x => match x with
    | .Expr (.Call (.Attribute o m apos) [] [] cpos) _ => decide (m = "pop") && pathB c i p o && apos.endLine == cpos.line && !isCallX o && (match j with
      | .nil => true
      | _ => false) && (match t with
      | .dr => true
      | _ => false)
    | .Assign [tg] (.Call (.Attribute o m apos) [] [] cpos) _ => tgB c t tg && decide (m = "pop") && pathB c i p o && apos.endLine == cpos.line && !isCallX o && (match j with
      | .nil => true
      | _ => false)
    | .Assign [tg] (.Call (.Attribute o m apos) [v] [] cpos) _ => tgB c t tg && decide (m = "pop") && pathB c i p o && apos.endLine == cpos.line && !isCallX o && plainX v && (match j with
      | .cons k .nil => (chk k).e c v
      | _ => false)
    | _ => false
  | .aug i o e => .one fun x => match x with
    | .AugAssign (.Name n _) op v _ => decide (c.N[i]? = some n) && isSt c n && decide (op = bopPy o) && (chk e).e c v
    | _ => false
  | .augp i p j o e => .one fun x => match x with
    | .AugAssign (.Subscript ob b _) op v _ => pathB c i p ob && (chk j).e c b && plainX b && decide (op = bopPy o) && (chk e).e c v
    | _ => false
  | .xpr e => .one fun x => match x with
    | .Expr v _ => (chk e).e c v && plainX v && !isComp v
    | _ => false
  | .ite d a b => .one fun x => match x with
    | .If t u v _ => (chk d).t c t && (chkS c exs rd rn a).b u && (chkS c exs rd rn b).b v
    | _ => false
  | .fr t it a => .one fun x => match x with
    | .For tg iter body [] _ => (chk it).i c tg iter && tgB c t tg && plainX iter && (chkS c exs rd rn a).b body
    | _ => false
  | .whl d a => .one fun x => match x with
    | .While t body [] _ => (chk d).t c t && (chkS c exs rd rn a).b body
    | _ => false
  | .ret e => .one fun x => match x with
    | .Return (some v) _ => (chk e).e c v && decide (rn ≤ dep rd e)
    | _ => false
  | .retn => .one fun x => match x with
    | .Return none _ => true
    | _ => false
  | .rai k as => .one fun x => match x with
    | .Raise (some (.Call (.Name n _) [.Constant (.str m) _ _] [] _)) none _ => decide (k = n) && isGl c n && decide (n ∈ exs) && decide (fieldsOf n = []) && (match as with
      | .cons (.cst (.str m')) .nil => true
      | _ => false)
    | .Raise (some (.Call (.Name n _) [u, v] [] _)) none _ => decide (k = n) && isGl c n && decide (n ∈ exs) && decide (fieldsOf n = (["beat", "line"] : List Str)) && (chk as).a c [u, v]
    | _ => false
  | _ => .one fun _ => false
structure FitS (c : Cfg) (exs : List Str) (M : Md) : Prop where
  fit : Fit c M
  po : PassesOwn (model M.X.prog M.X.w) M.X.A M.X.env M.X.xe
  kind : M.X.env.scope.kind = .function
  exc : ∀ x ∈ exs, fieldsOf x = [] → ∀ m j p p2 pos, Gl M.X x → L2.PMk M.X (.Call (.Name x p) [.Constant (.str m) j p2] [] pos) (fun _ H Q => Q (.ref (M.C x)) none H)
  exf : ∀ x ∈ exs, fieldsOf x = (["beat", "line"] : List Str) → (OexC M.X.K (M.C x) ∧ PySem.W.findIn M.X.K (.ref (M.C x)) "beat" = some none ∧ PySem.W.findIn M.X.K (.ref (M.C x)) "line" = some none) ∧
    ∀ e es ta p pos, Gl M.X x → PA M.X (e :: es) ta → starEach (e :: es) M.X.env = (false, eval e M.X.env) :: starEach es M.X.env → (backTo pos (starEach es M.X.env)).any (·.1) = false →
      L2.PMk M.X (.Call (.Name x p) (e :: es) [] pos) (tMkO (M.C x) (spInit M.X.K (M.C x)) [] ta)
theorem PS.imp {X : Cx} {st : Stmt} {t u : TS} (h : PS X st t) (f : ∀ D σ H, u D σ H → t D σ H) : PS X st u := ⟨fun pins s σ H D I q => h.run pins s σ H D I (f D σ H q)⟩
theorem PSs.imp {X : Cx} {st : List Stmt} {t u : TS} (h : PSs X st t) (f : ∀ D σ H, u D σ H → t D σ H) : PSs X st u := ⟨fun pins s σ H D I q => h.run pins s σ H D I (f D σ H q)⟩
structure SndS (c : Cfg) (exs : List Str) (rd : Nat → Nat) (rn : Nat) (u : S) : Prop where
  s : ∀ {M}, FitS c exs M → M.rd = rd → ∀ x, (chkS c exs rd rn u).s x = true → PS M.X x (rdS M rn u)
  b : ∀ {M}, FitS c exs M → M.rd = rd → ∀ x, (chkS c exs rd rn u).b x = true → PSs M.X x (rdS M rn u)
section
variable {c : Cfg} {exs : List Str} {rd : Nat → Nat} {rn : Nat}
theorem SndS.one {u : S} {f : Stmt → Bool} (h : chkS c exs rd rn u = .one f) (s : ∀ {M}, FitS c exs M → M.rd = rd → ∀ x, f x = true → PS M.X x (rdS M rn u)) : SndS c exs rd rn u := by
  constructor
  case s => rw [h]; exact fun a b x hx => s a b x hx
  case b =>
    rw [h]
    intro M a b xs hx
    replace hx : (match (generalizing := false) xs with
      | [x] => f x
      | _ => false) = true := hx
    split at hx
    · exact pss_one (s a b _ hx)
    · cases hx
/-- where a name takes a comprehension's list -/
theorem comp_inv {e : E} {c : Cfg} {elt : Expr} {gens : List Comprehension} {sc : Scope} {pos : Pos} (h : (chk e).e c (.ListComp elt gens sc pos) = true) :
    ∃ vs g, e = .comp vs g ∧ gens ≠ [] ∧ blkB c sc vs = true ∧ gens.all (fun g => decide (g.is_async = 0) && plainX g.iter) = true ∧ (chk g).g c (c.blk sc) vs elt gens 0 = true := by
  cases e with
  | comp vs g =>
    have h : ((match (generalizing := false) gens with
      | [] => false
      | _ :: _ => true) && blkB c sc vs && gens.all (fun g => decide (g.is_async = 0) && plainX g.iter) && (chk g).g c (c.blk sc) vs elt gens 0) = true := h
    simp only [Bool.and_eq_true] at h
    obtain ⟨⟨⟨h1, h2⟩, h3⟩, h4⟩ := h
    exact ⟨vs, g, rfl, (fun e => by rw [e] at h1; cases h1), h2, h3, h4⟩
  | _ => exact absurd h Bool.false_ne_true
theorem ps_comp {M : Md} (f : FitS c exs M) {e : E} {i : Nat} {y : Str} {py : Pos} {elt : Expr} {gens : List Comprehension} {sc : Scope} {pos spos : Pos} (h : (chk e).e c (.ListComp elt gens sc pos) = true) (hy : c.N[i]? = some y)
    (hs : swB c y py (.ListComp elt gens sc pos) = true) : PS M.X (.Assign [.Name y py] (.ListComp elt gens sc pos) spos) (tAsg (rdE M e 0) (gName i)) := by
  obtain ⟨vs, g, rfl, h1, h2, h3, h4⟩ := comp_inv h
  unfold swB at hs
  simp only [Bool.and_eq_true, decide_eq_true_eq, Bool.not_eq_true'] at hs
  have hyl : M.X.env.scope.names.lookup y = some .local := by rw [f.fit.sc]; exact hs.1.1
  have hN : M.X.N.Nodup := by rw [f.fit.N]; exact f.fit.nd
  have hy' : M.X.N[i]? = some y := by rw [f.fit.N]; exact hy
  refine ⟨fun pins s σ H D I h => ?_⟩
  rw [exec_Assign_Name_used _ _ _ _ (sw_true f.kind hyl hs.1.2 hs.2)]
  refine wpAny_bind (wpAny_standAt (wpAny_bind ?_))
  show wpAny _ M.X.A (do let _ ← comprehension (.ListComp elt gens sc pos) sc M.X.env (firstIterPos gens pos) (newList []) (firstAsync gens) (firstIter gens M.X.env) (some (assign (.Name y py) M.X.env))) _ _ s
  rw [async_no h3]
  have h : rdE M (.comp vs g) 0 σ H (fun x H1 => gName i x σ H1 D.nx) := h
  refine wpAny_bind (thn (comp_use (use := some (assign (.Name y py) M.X.env)) (Qf := fun _ s' => SP M.X pins D .next s') (snd g) f.fit h1 h2 h3 h4 I h fun L C s' m H' I' q hn ff => ?_) fun _ s' hq => wpAny_pure (wpAny_pure hq))
  show wpAny _ _ (assign (.Name y py) M.X.env (.ref L)) _ _ _
  refine wpAny_assign_Name (store_ok2 (v := V.ref L) I' hN hy' (.inl hyl) rfl (fun s2 I2 ⟨a, sb, ha⟩ => ?_) (.inr hyl))
  obtain ⟨f0, f1, f2, f3, f4, f5⟩ := ff
  have haC : C ≠ a := by
    rcases ha with z | z
    · rw [z]; exact f1
    · exact fun e => f4 y a z e.symm
  refine ⟨m, hn.sameBut sb haC, fun h3 sb3 => ?_⟩
  exact ⟨_, H', I2.turned (t' := s2.toks) (fun b o hb e => (sb3.2 b hb).trans e) f0 f1 f3 f4 f5, q⟩
theorem sw_no {M : Md} (f : FitS c exs M) {y : Str} {p : Pos} {v : Expr} {l : Nat} (hv : plainX v = true) (hs : swB c y p v = false) : swapsWith v (some (.Name y p)) l M.X.env = pure false := by
  cases v with
  | ListComp elt gens sc pos =>
    unfold swB at hs
    have hb : M.X.env.blockKind = .function := by unfold Env.blockKind; rw [f.kind]; rfl
    have hk : M.X.env.kindOf y = c.sc.names.lookup y := by show M.X.env.scope.names.lookup y = _; rw [f.fit.sc]
    unfold swapsWith
    simp only [hb, hk, Expr.pos]
    by_cases q : c.sc.names.lookup y = some .local
    · rw [q] at hs ⊢
      simp only [decide_true, Bool.true_and] at hs
      simp only [beq_self_eq_true, Bool.true_and]
      rw [hs]
    · have q2 : (c.sc.names.lookup y == some NameKind.local) = false := by
        cases e : (c.sc.names.lookup y == some NameKind.local) with
        | false => rfl
        | true => exact absurd (eq_of_beq e) q
      rw [q2]
      simp
  | _ => first | rfl | cases hv
theorem ps_nameE {M : Md} (f : FitS c exs M) {e : E} {i : Nat} {y : Str} {py : Pos} {v : Expr} {spos : Pos} (h : (chk e).e c v = true) (hv : plainX v = true) (hy : c.N[i]? = some y) (hst : isSt c y = true) :
    PS M.X (.Assign [.Name y py] v spos) (tAsg (rdE M e 0) (gName i)) := by
  cases hs : swB c y py v with
  | true =>
    cases v with
    | ListComp elt gens sc pos => exact ps_comp f h hy hs
    | _ => cases hs
  | false =>
    obtain ⟨g1, g2⟩ := f.fit.st hst
    exact ps_set (by rw [f.fit.N]; exact f.fit.nd) (by rw [f.fit.N]; exact hy) g1 ((snd e).e f.fit _ h 0) (sw_no f hv hs) g2
theorem z_skip : SndS c exs rd rn .skip := by
  constructor
  case s =>
    intro M f hr x h
    replace h : (match (generalizing := false) x with | .Pass _ => true | _ => false) = true := h
    split at h
    · exact PS.imp ps_pass fun D σ H q => s_skip q
    · cases h
  case b =>
    intro M f hr xs h
    replace h : (match (generalizing := false) xs with
      | [] => true
      | [.Pass _] => true
      | _ => false) = true := h
    split at h
    · exact PSs.imp pss_nil fun D σ H q => s_skip q
    · exact PSs.imp (pss_one ps_pass) fun D σ H q => s_skip q
    · cases h
theorem z_seq {x y : S} (sx : SndS c exs rd rn x) (sy : SndS c exs rd rn y) : SndS c exs rd rn (.seq x y) := by
  constructor
  case s => intros; exact absurd ‹_ = true› Bool.false_ne_true
  case b =>
    intro M f hr xs h
    replace h : (match (generalizing := false) xs with
      | a :: r => (chkS c exs rd rn x).s a && (chkS c exs rd rn y).b r
      | [] => false) = true := h
    split at h
    · rw [Bool.and_eq_true] at h
      exact PSs.imp (pss_cons (sx.s f hr _ h.1) (sy.b f hr _ h.2)) fun D σ H q => s_seq q
    · cases h
theorem z_xpr {e : E} : SndS c exs rd rn (.xpr e) := SndS.one rfl fun {M} f hr x h => by
  split at h
  · simp only [Bool.and_eq_true, Bool.not_eq_true'] at h
    rename_i v pos
    have hs : swapsWith v none pos.line M.X.env = pure false := by
      cases v <;> first | rfl | (have := h.1.2; cases this; done) | (have := h.2; cases this; done)
    exact PS.imp (ps_expr ((snd e).e f.fit _ h.1.1 0) hs) fun D σ H q => s_xpr q
  · cases h
theorem z_ite {d : E} {a b : S} (sa : SndS c exs rd rn a) (sb : SndS c exs rd rn b) : SndS c exs rd rn (.ite d a b) := SndS.one rfl fun {M} f hr x h => by
  split at h
  · simp only [Bool.and_eq_true] at h
    exact PS.imp (ps_if ((snd d).t f.fit _ h.1.1) (sa.b f hr _ h.1.2) (sb.b f hr _ h.2)) fun D σ H q => s_ite q
  · cases h
theorem z_fr {t : Tg} {it : E} {a : S} (sa : SndS c exs rd rn a) : SndS c exs rd rn (.fr t it a) := SndS.one rfl fun {M} f hr x h => by
  split at h
  · simp only [Bool.and_eq_true] at h
    exact PS.imp (ps_for f.po f.fit.calm ((snd it).i f.fit _ _ h.1.1.1) ((tg_all f.fit t).1 _ h.1.1.2).1 (sa.b f hr _ h.2) (fun x => fold_plain h.1.2 _ _)) fun D σ H q => s_fr q
  · cases h
theorem z_whl {d : E} {a : S} (sa : SndS c exs rd rn a) : SndS c exs rd rn (.whl d a) := SndS.one rfl fun {M} f hr x h => by
  split at h
  · simp only [Bool.and_eq_true] at h
    exact PS.imp (ps_while f.po ((snd d).t f.fit _ h.1) (sa.b f hr _ h.2)) fun D σ H q => s_whl q
  · cases h
theorem z_ret {e : E} : SndS c exs rd rn (.ret e) := SndS.one rfl fun {M} f hr x h => by
  split at h
  · simp only [Bool.and_eq_true, decide_eq_true_eq] at h
    exact PS.imp (ps_ret ((snd e).e f.fit _ h.1 0)) fun D σ H q => s_ret (by rw [hr]; exact h.2) q
  · cases h
theorem z_retn : SndS c exs rd rn .retn := SndS.one rfl fun {M} f hr x h => by
  split at h
  · exact PS.imp ps_retN fun D σ H q => s_retN q
  · cases h
theorem z_asgo {i n : Nat} {e : E} : SndS c exs rd rn (.asgo i n e) := SndS.one rfl fun {M} f hr x h => by
  split at h
  · simp only [Bool.and_eq_true] at h
    have h1 := h.1.1
    unfold tgB at h1
    split at h1
    · rename_i e1
      cases e1
      rw [Bool.and_eq_true, decide_eq_true_eq] at h1
      exact PS.imp (ps_nameE f h.1.2 h.2 h1.1 h1.2) fun D σ H q => s_asgo q
    · rename_i e1; cases e1
    · cases h1
  · cases h
theorem z_aug {i : Nat} {o : Bop} {e : E} : SndS c exs rd rn (.aug i o e) := SndS.one rfl fun {M} f hr x h => by
  split at h
  · simp only [Bool.and_eq_true, decide_eq_true_eq] at h
    obtain ⟨⟨⟨h1, h2⟩, rfl⟩, h4⟩ := h
    obtain ⟨g1, g2⟩ := f.fit.st h2
    exact PS.imp (ps_aug (by rw [f.fit.N]; exact f.fit.nd) (by rw [f.fit.N]; exact h1) g1 ((snd e).e f.fit _ h4 1) (ipBin (C := M.C) o) g2) fun D σ H q => s_aug q
  · cases h
theorem z_rai {k : Str} {as : E} : SndS c exs rd rn (.rai k as) := SndS.one rfl fun {M} f hr x h => by
  split at h
  · simp only [Bool.and_eq_true, decide_eq_true_eq] at h
    obtain ⟨⟨⟨⟨rfl, h2⟩, h3⟩, h5⟩, h4⟩ := h
    obtain ⟨g1, g2⟩ := f.fit.gl h2
    have e2 := f.exc _ h3 h5
    split at h4
    · exact PS.imp (L2.ps_raise f.fit.calm f.fit.tk (e2 _ _ _ _ _ g1)) fun D σ H q => s_rai0 h5 q
    · cases h4
  · simp only [Bool.and_eq_true, decide_eq_true_eq] at h
    obtain ⟨⟨⟨⟨rfl, h2⟩, h3⟩, h5⟩, h4⟩ := h
    obtain ⟨g1, g2⟩ := f.fit.gl h2
    obtain ⟨⟨T, n1, n2⟩, e2⟩ := f.exf _ h3 h5
    obtain ⟨k1, k2, k3, k4⟩ := (snd as).a f.fit _ h4
    rw [List.all_cons, Bool.and_eq_true] at k4
    exact PS.imp (L2.ps_raise f.fit.calm f.fit.tk (e2 _ _ _ _ _ g1 (k1 0 (Nat.zero_le _)) (star_plain k4.1 _ _) (back_args k4.2 _ _))) fun D σ H q => s_rai1 h5 k3.symm T n1 n2 q
  · cases h
theorem sole_tup {es : List Expr} {k : Nat} {tp : Pos} {v : Expr} {l : Nat} {env : Env} (hv : plainX v = true) : swapsWithSole [.Tuple es k tp] v l env = pure false := by
  cases v <;> first | rfl | cases hv
theorem stores_tup {es : List Expr} {k : Nat} {tp : Pos} {v : Expr} {env : Env} (hv : isTupX v = false) : swappedStores [.Tuple es k tp] v env = pure none := by
  cases v <;> first | rfl | cases hv
theorem z_asg {t : Tg} {e : E} : SndS c exs rd rn (.asg t e) := SndS.one rfl fun {M} f hr x h => by
  split at h
  · rename_i tg v pos
    simp only [Bool.and_eq_true] at h
    obtain ⟨⟨⟨h1, h2⟩, h3⟩, h4⟩ := h
    cases t with
    | v i =>
      cases tg with
      | Name n p =>
        replace h1 : (decide (c.N[i]? = some n) && isSt c n) = true := h1
        rw [Bool.and_eq_true, decide_eq_true_eq] at h1
        exact PS.imp (ps_nameE f h2 h3 h1.1 h1.2) fun D σ H q => by
          obtain ⟨s, fps, G, o, r⟩ := s_asg q
          exact ⟨s, fps, G, o, r.imp fun d s1 H1 G1 fps1 _ o1 st1 z v hv => g_v (z v hv)⟩
      | _ => exact absurd h1 Bool.false_ne_true
    | cons a r =>
      cases tg with
      | Tuple es k p =>
        obtain ⟨g1, g2⟩ := (tg_all f.fit (.cons a r)).1 _ h1
        replace h4 : (!isTupX v) = true := h4
        rw [Bool.not_eq_true'] at h4
        exact PS.imp (L2.ps_asg ((snd e).e f.fit _ h2 0) g1 (sole_tup h3) (stores_tup h4) (by rw [g2]; rfl)) fun D σ H q => s_asg q
      | _ => exact absurd h1 Bool.false_ne_true
    | _ => exact absurd h1 Bool.false_ne_true
  · cases h
theorem a_cons_inv {p : E} {b : Expr} {bs : List Expr} (h : (chk p).a c (b :: bs) = true) : ∃ a r, p = .cons a r ∧ plainX b = true ∧ (chk a).e c b = true ∧ (chk r).a c bs = true := by
  cases p with
  | cons a r =>
    replace h : (plainX b && (chk a).e c b && (chk r).a c bs) = true := h
    simp only [Bool.and_eq_true] at h
    exact ⟨a, r, rfl, h.1.1, h.1.2, h.2⟩
  | _ => exact absurd h Bool.false_ne_true
theorem path_out {M : Md} (f : Fit c M) {i : Nat} {p : E} {x : Expr} (h : pathB c i p x = true) : ∃ l, p = E.ofL l ∧ NavE M i x l := by
  unfold pathB at h
  have base : ∀ {n pos}, isVar c n i = true → NavE M i (.Name n pos) [] := fun h => .base (f.var h)
  split at h
  · rw [Bool.and_eq_true] at h
    cases (snd p).a0 h.2
    exact ⟨[], rfl, base h.1⟩
  · rw [Bool.and_eq_true] at h
    obtain ⟨a, r, rfl, a1, a2, a3⟩ := a_cons_inv h.2
    cases (snd r).a0 a3
    exact ⟨[a], rfl, .step (l := []) (base h.1) ((snd a).e f _ a2 0) (ix_plain a1)⟩
  · rw [Bool.and_eq_true] at h
    obtain ⟨a, r, rfl, a1, a2, a3⟩ := a_cons_inv h.2
    obtain ⟨a', r', rfl, b1, b2, b3⟩ := a_cons_inv a3
    cases (snd r').a0 b3
    exact ⟨[a, a'], rfl, .step (l := [a]) (.step (l := []) (base h.1) ((snd a).e f _ a2 0) (ix_plain a1)) ((snd a').e f _ b2 0) (ix_plain b1)⟩
  · rw [Bool.and_eq_true] at h
    obtain ⟨a, r, rfl, a1, a2, a3⟩ := a_cons_inv h.2
    obtain ⟨a', r', rfl, b1, b2, b3⟩ := a_cons_inv a3
    obtain ⟨a'', r'', rfl, c1, c2, c3⟩ := a_cons_inv b3
    cases (snd r'').a0 c3
    exact ⟨[a, a', a''], rfl, .step (l := [a, a']) (.step (l := [a]) (.step (l := []) (base h.1) ((snd a).e f _ a2 0) (ix_plain a1)) ((snd a').e f _ b2 0) (ix_plain b1)) ((snd a'').e f _ c2 0) (ix_plain c1)⟩
  · cases h
theorem sole_sub {o b : Expr} {tp : Pos} {v : Expr} {l : Nat} {env : Env} (hv : plainX v = true) : swapsWithSole [.Subscript o b tp] v l env = pure false := by
  cases v <;> first | rfl | cases hv
theorem sub_assign {o b : Expr} {pos : Pos} (hb : plainX b = true) (env : Env) (v : Value) : assign (.Subscript o b pos) env v = (do
      let ov ← holding [v] (eval o env)
      let iv ← holding [v, ov] (eval b env)
      standAt pos
      holding [v, ov, iv] (setItem ov iv v)
      release [v, ov, iv] []) := by
  cases b <;> first | rfl | cases hb
theorem base_plain {o : Expr} {m : Str} {env : Env} (h : isCallX o = false) : attributeBase o m env (eval o env) = eval o env := by
  cases o <;> first | rfl | cases h
theorem few_one {v : Expr} {cpos : Pos} {env : Env} (h : plainX v = true) : ((backTo cpos (starEach [v] env)).all (fun x => !x.1) && (backToKw cpos (keywordEach [] env)).all (fun x => x.1.isSome)
      && decide ([v].length + ([] : List Keyword).length + (if ([] : List Keyword).isEmpty then 0 else 1) < 30)) = true := by
  rw [star_plain h]
  rfl
theorem z_setp {i : Nat} {p b e : E} : SndS c exs rd rn (.setp i p b e) := SndS.one rfl fun {M} f hr x h => by
  split at h
  · simp only [Bool.and_eq_true] at h
    obtain ⟨⟨⟨⟨h1, h2⟩, h3⟩, h4⟩, h5⟩ := h
    obtain ⟨l, rfl, hn⟩ := path_out f.fit h1
    exact PS.imp (L2.ps_asg ((snd e).e f.fit _ h4 0) (pg_sub (pe_nav hn) ((snd b).e f.fit _ h2 0) set_list (fun v => sub_assign h3 _ v)) (sole_sub h5) rfl rfl) fun D σ H q => s_setp q
  · cases h
theorem aug_plain {b : Expr} (h : plainX b = true) (ov iv new : Value) : augStore b ov iv new = (do holding [new, ov, iv] (setItem ov iv new); release [new, ov, iv] []; pure .next) := by
  cases b <;> first | rfl | cases h
theorem z_augp {i : Nat} {p b e : E} {o : Bop} : SndS c exs rd rn (.augp i p b o e) := SndS.one rfl fun {M} f hr x h => by
  split at h
  · simp only [Bool.and_eq_true, decide_eq_true_eq] at h
    obtain ⟨⟨⟨⟨h1, h2⟩, h3⟩, rfl⟩, h5⟩ := h
    obtain ⟨l, rfl, hn⟩ := path_out f.fit h1
    exact PS.imp (ps_augS (pe_nav hn) ((snd b).e f.fit _ h2 0) get_list ((snd e).e f.fit _ h5 1) (ipBin (C := M.C) o) set_list (fun ov iv new => aug_plain h3 ov iv new)) fun D σ H q => s_augp q
  · cases h
theorem z_app {i : Nat} {p e : E} : SndS c exs rd rn (.app i p e) := SndS.one rfl fun {M} f hr x h => by
  split at h
  · simp only [Bool.and_eq_true, decide_eq_true_eq, Bool.not_eq_true'] at h
    obtain ⟨⟨⟨⟨⟨rfl, h2⟩, h3⟩, h4⟩, h5⟩, h6⟩ := h
    obtain ⟨l, rfl, hn⟩ := path_out f.fit h2
    exact PS.imp (ps_expr (pe_bm PySem.F.plainAttrs_list PySem.F.slot_list_append PySem.F.type_list_append mt_append (pe_nav hn) (pa_cons ((snd e).e f.fit _ h3 0) pa_nil (star_plain h4 _ _)) (base_plain h6) (few_one h4) h5 (star_plain h4 _ _) rfl) rfl) fun D σ H q => s_app q
  · cases h
theorem sole_call {tg fn : Expr} {as : List Expr} {ks : List Keyword} {p : Pos} {l : Nat} {env : Env} : swapsWithSole [tg] (.Call fn as ks p) l env = pure false := rfl
theorem stores_call {tg fn : Expr} {as : List Expr} {ks : List Keyword} {p : Pos} {env : Env} : swappedStores [tg] (.Call fn as ks p) env = pure none := by cases tg <;> rfl
theorem g_drop {M : Md} {te : TE} {D : Ends} {σ : L2.St} {H : Hp} (hm : ∀ σ H (Q Q' : VK), (∀ x H, Q x H → Q' x H) → te σ H Q → te σ H Q') (q : tAsg te (rdG M .dr) D σ H) : tDrop te D σ H := hm _ _ _ _ (fun x H1 h => g_dr h) q
theorem z_pop {t : Tg} {i : Nat} {p j : E} : SndS c exs rd rn (.pop t i p j) := SndS.one rfl fun {M} f hr x h => by
  split at h
  · simp only [Bool.and_eq_true, decide_eq_true_eq, Bool.not_eq_true'] at h
    obtain ⟨⟨⟨⟨⟨rfl, h2⟩, h5⟩, h6⟩, h7⟩, h8⟩ := h
    obtain ⟨l, rfl, hn⟩ := path_out f.fit h2
    split at h7
    · split at h8
      · exact PS.imp (ps_expr (pe_bm0 PySem.F.plainAttrs_list PySem.F.slot_list_pop PySem.F.type_list_pop mt_pop (pe_nav hn) (base_plain h6) h5) rfl) fun D σ H q => by
          obtain ⟨s, fps, G, o, r⟩ := s_pop0 q
          exact ⟨s, fps, G, o, r.imp fun ds s1 H1 G1 fps1 _ o1 st1 z v0 v hv0 nav => by
            obtain ⟨ty, a, xs, y, e1, e2, e3, e4, e5⟩ := z v0 v hv0 nav
            exact ⟨ty, a, xs, y, e1, e2, e3, e4, g_dr e5⟩⟩
      · cases h8
    · cases h7
  · simp only [Bool.and_eq_true, decide_eq_true_eq, Bool.not_eq_true'] at h
    obtain ⟨⟨⟨⟨⟨h1, rfl⟩, h2⟩, h5⟩, h6⟩, h7⟩ := h
    obtain ⟨l, rfl, hn⟩ := path_out f.fit h2
    obtain ⟨g1, g2⟩ := (tg_all f.fit t).1 _ h1
    split at h7
    · exact PS.imp (L2.ps_asg (pe_bm0 PySem.F.plainAttrs_list PySem.F.slot_list_pop PySem.F.type_list_pop mt_pop (pe_nav hn) (base_plain h6) h5) g1 sole_call stores_call (by rw [g2]; rfl)) fun D σ H q => s_pop0 q
    · cases h7
  · simp only [Bool.and_eq_true, decide_eq_true_eq, Bool.not_eq_true'] at h
    obtain ⟨⟨⟨⟨⟨⟨h1, rfl⟩, h2⟩, h5⟩, h6⟩, h8⟩, h7⟩ := h
    obtain ⟨l, rfl, hn⟩ := path_out f.fit h2
    obtain ⟨g1, g2⟩ := (tg_all f.fit t).1 _ h1
    split at h7
    · exact PS.imp (L2.ps_asg (pe_bm PySem.F.plainAttrs_list PySem.F.slot_list_pop PySem.F.type_list_pop mt_popAt (pe_nav hn) (pa_cons ((snd _).e f.fit _ h7 0) pa_nil (star_plain h8 _ _)) (base_plain h6) (few_one h8) h5 (star_plain h8 _ _) rfl) g1 sole_call stores_call (by rw [g2]; rfl)) fun D σ H q => s_pop1 q
    · cases h7
  · cases h
theorem swapped_two {env : Env} {x y : Str} {p1 p2 pt pt2 : Pos} {kt k2 : Nat} {a b : Expr} (hk : env.scope.kind = .function) (hx : env.scope.names.lookup x = some .local) (hy : env.scope.names.lookup y = some .local) (hl : (p1.line == p2.line) = true) (hne : x ≠ y)
    (ha : plainX a = true) (hb : plainX b = true) (h1 : [a, b].all (foldedForSure 8) = false) (h2 : [a, b].all (constantsAlone 8) = false) :
    swappedStores [.Tuple [.Name x p1, .Name y p2] kt pt] (.Tuple [a, b] k2 pt2) env = pure (some [x, y]) := by
  have hbk : env.blockKind = .function := by unfold Env.blockKind; rw [hk]; rfl
  have kx : env.kindOf x = some .local := hx
  have ky : env.kindOf y = some .local := hy
  have el : p2.line = p1.line := (eq_of_beq hl).symm
  have sa : ∀ {u : Expr}, plainX u = true → (match u with | .Starred .. => true | _ => false) = false := fun {u} h => by cases u <;> first | rfl | cases h
  unfold swappedStores
  simp only [hbk, List.length_cons, List.length_nil, List.any_cons, List.any_nil, sa ha, sa hb, h1, h2]
  have hd : ([x, y] : List Str).eraseDups.length = 2 := by
    have : (y == x) = false := by
      cases e : (y == x) with
      | false => rfl
      | true => exact absurd (eq_of_beq e).symm hne
    simp [List.eraseDups_cons, this]
  simp [kx, ky, el, Expr.pos, hd]
  intro q
  exfalso
  rcases q with q | q
  · cases a <;> first | (cases q; done) | (cases ha; done)
  · cases b <;> first | (cases q; done) | (cases hb; done)
theorem a_two {M : Md} {a b u v : E} {x y : Expr} {n : Nat} (ha : PE M.X x (rdE M a 0)) (hb : PE M.X y (rdE M b 0)) (hx : plainX x = true) (hy : plainX y = true) (h1 : n ≤ dep M.rd a) (h2 : n ≤ dep M.rd b) : PA M.X [x, y] (rdA M (.cons a (.cons b .nil)) n) :=
  (pa_cons ha ((pa_cons hb (pa_nil.imp fun σ H Q q => a_nil q) (star_plain hy _ _)).imp fun σ H Q q => a_cons h2 q) (star_plain hx _ _)).imp fun σ H Q q => a_cons h1 q
theorem z_par {i n j m : Nat} {a b : E} : SndS c exs rd rn (.par i n j m a b) := SndS.one rfl fun {M} f hr x h => by
  split at h
  · rename_i nn p1 mm p2 kt pt u v k2 pt2 pos
    simp only [Bool.and_eq_true, decide_eq_true_eq, Bool.not_eq_true'] at h
    obtain ⟨⟨⟨⟨⟨⟨⟨⟨⟨⟨⟨⟨h1, h2⟩, h3⟩, h4⟩, h5⟩, h6⟩, h7⟩, h8⟩, h9⟩, h10⟩, h11⟩, h12⟩, h13⟩ := h
    have e4 : M.X.env.scope.names.lookup nn = some .local := by rw [f.fit.sc]; exact h4
    have e5 : M.X.env.scope.names.lookup mm = some .local := by rw [f.fit.sc]; exact h5
    exact PS.imp (ps_par f.fit.calm (by rw [f.fit.N]; exact f.fit.nd) (by rw [f.fit.N]; exact h1) (by rw [f.fit.N]; exact h2) h3 e4 e5
      (a_two (n := if n ≤ dep M.rd a ∧ n ≤ dep M.rd b then n else 0) (u := a) (v := b) ((snd a).e f.fit _ h6 0) ((snd b).e f.fit _ h7 0) h8 h9 (by split <;> omega) (by split <;> omega)) (swapped_two f.kind e4 e5 h11 h10 h8 h9 h12 h13) rfl) fun D σ H q => s_par q
  · cases h
/-- ALL STATEMENTS -/
theorem sndS : ∀ u : S, SndS c exs rd rn u := by
  intro u
  induction u with
  | skip => exact z_skip
  | seq _ _ s t => exact z_seq s t
  | asg t e => exact z_asg
  | asgo i n e => exact z_asgo
  | par i n j m a b => exact z_par
  | setp i p j e => exact z_setp
  | aug i o e => exact z_aug
  | app i p e => exact z_app
  | augp i p j o e => exact z_augp
  | pop t i p j => exact z_pop
  | xpr e => exact z_xpr
  | ite d _ _ s t => exact z_ite s t
  | fr t it _ s => exact z_fr s
  | whl d _ s => exact z_whl s
  | ret e => exact z_ret
  | retn => exact z_retn
  | rai k as => exact z_rai
  | _ => exact SndS.one rfl fun {M} f hr x h => by cases h
end
end Hx
namespace Hx
open PySem (Str)
def rdOf (tbl : Nat → Option Fn) (i : Nat) : Nat := ((tbl i).map (·.rd)).getD 0
def semT (tbl : Nat → Option Fn) : Nat → Sem
  | 0 => fun _ _ _ => .stuck
  | k + 1 => fun i ds w => match tbl i with
    | some fn => run (rdOf tbl) (semT tbl k) fn ds w
    | none => .stuck
/-- a run ends well, with Q; or with an error, with X -/
def WP {α : Type} (r : Res α) (Q : α → St → Prop) (X : Str → List D → St → Prop := fun _ _ _ => False) : Prop := match r with
  | .ok a s => Q a s
  | .exc c fs s => X c fs s
  | .stuck => False
section
variable {α β : Type} {X : Str → List D → St → Prop}
theorem WP.bind {r : Res α} {f : α → St → Res β} {Q : β → St → Prop} (h : WP r (fun a s => WP (f a s) Q X) X) : WP (r.bind f) Q X := by
  cases r with
  | ok a s => exact h
  | exc c fs s => exact h
  | stuck => exact h
theorem WP.imp {r : Res α} {Q R : α → St → Prop} (h : WP r Q X) (f : ∀ a s, Q a s → R a s) : WP r R X := by
  cases r with
  | ok a s => exact f a s h
  | exc c fs s => exact h
  | stuck => exact h
theorem WP.then {r : Res α} {f : α → St → Res β} {P : α → St → Prop} {Q : β → St → Prop} (h : WP r P X) (g : ∀ a s, P a s → WP (f a s) Q X) : WP (r.bind f) Q X := WP.bind (h.imp g)
theorem wp_ok {a : α} {s : St} {Q : α → St → Prop} : WP (.ok a s) Q X = Q a s := Eq.trans rfl rfl
theorem WP.noExc {r : Res α} {Q : α → St → Prop} (h : WP r Q) : WP (noExc r) Q X := by
  cases r with
  | ok a s => exact h
  | exc c fs s => exact h.elim
  | stuck => exact h.elim
/-- a for, turn by turn -/
theorem wp_for {f : D → St → Res Flow} (ds : List D) (I : List D → St → Prop) {Q : Flow → St → Prop} {s : St} (h0 : I [] s)
    (st : ∀ pre d post s, ds = pre ++ d :: post → I pre s → WP (f d s) (fun fl s' => match fl with
      | .nx => I (pre ++ [d]) s'
      | .rt v => Q (.rt v) s') X) (he : ∀ s, I ds s → Q .nx s) : WP (forR f ds s) Q X := by
  have go : ∀ (post pre : List D) (s : St), ds = pre ++ post → I pre s → WP (forR f post s) Q X := by
    intro post
    induction post with
    | nil => intro pre s e h; rw [List.append_nil] at e; subst e; exact he s h
    | cons d post ih =>
      intro pre s e h
      show WP ((f d s).bind _) Q X
      refine WP.then (st pre d post s e h) fun fl s' q => ?_
      cases fl with
      | nx => exact ih (pre ++ [d]) s' (by rw [e]; simp) q
      | rt v => exact q
  exact go ds [] s rfl h0
/-- a for, by the places -/
theorem wp_forN {f : D → St → Res Flow} (ds : List D) (I : Nat → St → Prop) {Q : Flow → St → Prop} {s : St} (h0 : I 0 s)
    (st : ∀ j (hj : j < ds.length) s, I j s → WP (f ds[j] s) (fun fl s' => match fl with
      | .nx => I (j + 1) s'
      | .rt v => Q (.rt v) s') X) (he : ∀ s, I ds.length s → Q .nx s) : WP (forR f ds s) Q X := by
  refine wp_for ds (fun pre s => I pre.length s) h0 (fun pre d post s e h => ?_) he
  have hj : pre.length < ds.length := by rw [e]; simp
  have : ds[pre.length] = d := by simp [e]
  have q := st pre.length hj s h
  rw [this] at q
  simpa using q
/-- a comprehension, turn by turn -/
theorem wp_comp {f : D → List D → St → Res (List D)} (ds : List D) (I : Nat → List D → St → Prop) {Q : List D → St → Prop} {acc : List D} {s : St} (h0 : I 0 acc s)
    (st : ∀ j (hj : j < ds.length) acc s, I j acc s → WP (f ds[j] acc s) (fun a s' => I (j + 1) a s') X) (he : ∀ acc s, I ds.length acc s → Q acc s) : WP (compR f ds acc s) Q X := by
  have go : ∀ (post pre : List D) (acc : List D) (s : St), ds = pre ++ post → I pre.length acc s → WP (compR f post acc s) Q X := by
    intro post
    induction post with
    | nil => intro pre acc s e h; rw [List.append_nil] at e; subst e; exact he acc s h
    | cons d post ih =>
      intro pre acc s e h
      show WP ((f d acc s).bind _) Q X
      have hj : pre.length < ds.length := by rw [e]; simp
      have hd : ds[pre.length] = d := by simp [e]
      have q := st pre.length hj acc s h
      rw [hd] at q
      refine WP.then q fun a s' q => ih (pre ++ [d]) a s' (by rw [e]; simp) (by simpa using q)
  exact go ds [] acc s rfl h0
/-- a while, by a measure -/
theorem wp_while {c : St → Res Bool} {b : St → Res Flow} (I : Nat → St → Prop) {Q : Flow → St → Prop}
    (st : ∀ m s, I m s → WP (c s) (fun t s1 => if t = true then (0 < m ∧ WP (b s1) (fun fl s2 => match fl with
      | .nx => I (m - 1) s2
      | .rt v => Q (.rt v) s2) X) else Q .nx s1) X) : ∀ (n m : Nat) (s : St), m < n → I m s → WP (whileR c b n s) Q X := by
  intro n
  induction n with
  | zero => intro m s h; exact absurd h (Nat.not_lt_zero _)
  | succ n ih =>
    intro m s h hI
    refine WP.then (st m s hI) fun t s1 q => ?_
    cases t with
    | false => exact q
    | true =>
      obtain ⟨hm, q⟩ := q
      refine WP.then q fun fl s2 q => ?_
      cases fl with
      | nx => exact ih (m - 1) s2 (by omega) q
      | rt v => exact q
end
section
variable (sem : Sem) (rd : Nat → Nat)
def loopF (t : Tg) (b : S) : D → St → Res Flow := fun d s => (opt (stTg t d s.env) s).bind fun env s => ex sem rd b { s with env := env }
def condF (c : E) : St → Res Bool := fun s => (ev sem c 99 s).bind fun x s => (match x with
  | .bl t => .ok t s
  | _ => .stuck)
def compF (t : Tg) (c r : E) : D → List D → St → Res (List D) := fun d acc s => (opt (stTg t d s.env) s).bind fun env s =>
  (ev sem c 99 { s with env := env }).bind fun b s => (match b with
    | .bl b => if b then evG sem r acc s else .ok acc s
    | _ => .stuck)
theorem ex_fr {t : Tg} {it : E} {b : S} {s : St} : ex sem rd (.fr t it b) s = (evI sem it s).bind fun ds s => forR (loopF sem rd t b) ds s := Eq.trans rfl rfl
theorem ex_whl {c : E} {b : S} {s : St} : ex sem rd (.whl c b) s = whileR (condF sem c) (ex sem rd b) fuel s := Eq.trans rfl rfl
theorem ev_comp {vs : List Nat} {t : Tg} {it c r : E} {k : Nat} {s : St} : ev sem (.comp vs (.gfor t it c r)) k s =
    (evI sem it { s with env := unsl vs s.env }).bind fun ds s0 => (noExc (compR (compF sem t c r) ds [] { s0 with env := unsl vs s0.env })).bind fun ds s1 => .ok (.lst ds) { s1 with env := backsl vs s.env s1.env } := by
  unfold ev; rfl
theorem evG_for {t : Tg} {it c r : E} {acc : List D} {s : St} : evG sem (.gfor t it c r) acc s = (evI sem it s).bind fun ds s => compR (compF sem t c r) ds acc s := by
  conv => lhs; unfold evG
  rfl
theorem ex_seq {a b : S} {s : St} : ex sem rd (.seq a b) s = (ex sem rd a s).bind fun fl s => (match fl with
    | .nx => ex sem rd b s
    | .rt d => .ok (.rt d) s) := Eq.trans rfl rfl
end
/-- one statement, then the others -/
theorem wp_seq {sem : Sem} {rd : Nat → Nat} {a b : S} {s : St} {Q : Flow → St → Prop} {X : Str → List D → St → Prop} (P : St → Prop) (h : WP (ex sem rd a s) (fun fl s' => fl = .nx ∧ P s') X) (g : ∀ s', P s' → WP (ex sem rd b s') Q X) : WP (ex sem rd (.seq a b) s) Q X := by
  rw [ex_seq]
  refine WP.then h fun fl s' q => ?_
  obtain ⟨rfl, q⟩ := q
  exact g s' q
end Hx
namespace Hx
open PySem PySem.Spec PyProof.Rows L2
section
variable {P : Program} {w : World} {K : PySem.W.Frag} {mg : Str → Option Value} {base : Heap} {C : Str → Addr} {tbl : Nat → Option Fn} {glb : List (Str × D)} {fns : List (Str × Nat × Nat)} {bl exs : List Str} {law : Bool}
structure ExcHere (P : Program) (w : World) (K : PySem.W.Frag) (mg : Str → Option Value) (base : Heap) (C : Str → Addr) (x : Str) : Prop where
  ex : (fieldsOf x = [] ∧ ∃ (B newId initId : String) (bmB : List Value), PySem.ExcBaseFacts B newId initId bmB ∧ PySem.W.excIn K (C x) bmB newId = true) ∨
    (fieldsOf x = (["beat", "line"] : List Str) ∧ OexC K (C x) ∧ PySem.W.findIn K (.ref (C x)) "beat" = some none ∧ PySem.W.findIn K (.ref (C x)) "line" = some none ∧ ∃ (fI : Addr) (fd : FuncData), PySem.W.findIn K (.ref (C x)) "__init__" = some (some (.ref fI)) ∧ PySem.W.typeIn K (.ref fI) = some (.type "function") ∧
      FnOk P w K mg base (L2.CX P w) 1 fI fd initN (spInit K (C x)) ∧ Binds K fd initN [])
  mg : mg x = some (.ref (C x))
  kp : PySem.W.keepIn K (.ref (C x)) = true
  sub : PySem.W.subIn K (.ref (C x)) (.type "BaseException") = some true
  ty : PySem.W.typeIn K (.ref (C x)) = some (.type "type")
  db : (x == ("__debug__" : Str)) = false
structure LawC (P : Program) (w : World) (K : PySem.W.Frag) (mg : Str → Option Value) (base : Heap) (C : Str → Addr) (glb : List (Str × D)) (bl exs : List Str) : Prop where
  glb : ∀ x d, glb.lookup x = some d → ∃ u v, mg x = some u ∧ gV d = some v ∧ RelV v u
  bl : ∀ x ∈ bl, mg x = none
  exc : ∀ x ∈ exs, ExcHere P w K mg base C x
/-- a def of the text is the table's -/
structure DefAt (K : PySem.W.Frag) (mg : Str → Option Value) (tbl : Nat → Option Fn) (glb : List (Str × D)) (fns : List (Str × Nat × Nat)) (bl exs : List Str) (law : Bool) (x : Str) (i ar : Nat) (f : Addr) (fd : FuncData) (ps : List Str) : Prop where
  ex : ∃ (qual : Str) (st : Stmt) (N cel : List Str) (fn : Fn), L2.Fun K x qual st f fd ∧ FnScope N ps (defScope st) ∧ mg x = some (.ref f) ∧ Binds K fd ps [] ∧ tbl i = some fn ∧ fn.ar = ar ∧ ps.length = ar ∧ fn.io = [] ∧ N.length = fn.sl ∧ ar ≤ fn.sl ∧
    (chkS ⟨N, defScope st, cel, glb, fns, bl, law⟩ exs (rdOf tbl) fn.rd fn.body).b (defBody st) = true
structure DefOk (K : PySem.W.Frag) (mg : Str → Option Value) (tbl : Nat → Option Fn) (glb : List (Str × D)) (fns : List (Str × Nat × Nat)) (bl exs : List Str) (law : Bool) (x : Str) (i ar : Nat) : Prop where
  ex : ∃ (f : Addr) (fd : FuncData) (ps : List Str), DefAt K mg tbl glb fns bl exs law x i ar f fd ps
theorem start_ok {N : List Str} {vs : List V} {ds : List D} {H : Hp} {G : Gs} {w0 : Wd} {fn : Fn} {ar : Nat} (gi : GI H G) (wr : WR H G w0) (hv : Val.Vals' K w C H G ds 0 vs) (hl : vs.length = ar) (ha : fn.ar = ar) (hn : N.length = fn.sl) (hs : ar ≤ fn.sl) (hio : fn.io = []) :
    Ok K w C H G (start N vs) H ⟨(ds.zipIdx.map fun (d, i) => match fn.io.lookup i with
      | some n => Sl.ow n d
      | none => Sl.fz d) ++ List.replicate (fn.sl - fn.ar) .un, w0⟩ (fun _ => []) G := by
  have hd : ds.length = ar := by rw [← Vals'.length hv, hl]
  have he : (ds.zipIdx.map fun (d, i) => match fn.io.lookup i with
      | some n => Sl.ow n d
      | none => Sl.fz d) = ds.map Sl.fz := by
    rw [hio]
    apply List.ext_getElem (by simp)
    intro j h1 h2
    simp
  rw [he]
  refine ⟨gi, wr, ⟨?_, fun i sl x h1 h2 => ?_, fun _ _ => rfl⟩, fun _ => List.nodup_nil, (fun _ _ _ _ h => nomatch h), (fun _ _ h => nomatch h), (fun _ _ h => nomatch h), .refl, fun _ z => .inl z, (fun _ _ h => nomatch h)⟩
  · unfold L2.start
    simp only [List.length_append, List.length_map, List.length_replicate]
    omega
  · have h1 : (ds.map Sl.fz ++ List.replicate (fn.sl - fn.ar) Sl.un)[i]? = some sl := h1
    by_cases hi : i < ds.length
    · rw [List.getElem?_append_left (by simpa using hi), List.getElem?_map, List.getElem?_eq_getElem hi] at h1
      cases h1
      obtain ⟨v, e, hvv⟩ := Vals'.nth hv (List.getElem?_eq_getElem hi)
      unfold L2.start at h2
      rw [List.getElem?_append_left (by rw [List.length_map]; omega), List.getElem?_map, e] at h2
      cases h2
      exact ⟨⟨v, rfl, hvv⟩, rfl⟩
    · rw [List.getElem?_append_right (by simpa using Nat.le_of_not_lt hi), List.getElem?_replicate] at h1
      split at h1
      · cases h1; rfl
      · cases h1
/-- a body's run, read -/
theorem run_ok {M : Md} {n : Nat} {Q : VK} {E : XK} {fn : Fn} {σ : L2.St} {s : St} {fps : Nat → List Addr} (o : M.Ok σ M.H0 s fps M.G0) (hW : M.W = fun cls d _ H => E cls d H)
    (h : endF M.X.K M.X.w M.C n M.H0 M.G0 Q E (match ex M.sem M.rd fn.body s with
      | .ok (.rt d) s => .ok d [] s.w
      | .ok .nx s => .ok .non [] s.w
      | .exc c fs s => .exc c fs s.w
      | .stuck => .stuck)) : rdS M n fn.body { nx := fun _ H' => Q .non H', rt := Q } σ M.H0 := by
  refine ⟨s, fps, M.G0, o, ?_⟩
  cases e : ex M.sem M.rd fn.body s with
  | ok f s' =>
    rw [e] at h
    cases f with
    | nx =>
      intro σ' H' G' fps' o' st
      exact h .non H' G' [] ⟨o'.gi, o'.wr, o'.base, o'.zb⟩ (by unfold Own Val; exact ⟨rfl, rfl⟩) List.nodup_nil fun _ z => nomatch z
    | rt d =>
      intro v σ' H' G' fps' fp o' st ow nd hf
      exact h v H' G' fp ⟨o'.gi, o'.wr, o'.base, o'.zb⟩ ow nd hf
  | exc c fs s' =>
    rw [e] at h
    intro σ' H' G' fps' dd o' st xr
    rw [hW]
    exact h H' G' dd ⟨o'.gi, o'.wr, o'.base, o'.zb⟩ xr
  | stuck =>
    rw [e] at h
    exact h
theorem spF_stuck {sem : Sem} {rd : Nat → Nat} {i ar : Nat} {vs : List V} {H : Hp} {Q : VK} {E : XK} (hs : ∀ ds w, sem i ds w = .stuck) : ¬ spF K w C sem rd i ar vs H Q E := by
  rintro ⟨_, ds, w0, G, _, _, _, h⟩
  rw [hs] at h
  exact h
/-- a helper of the law's own, as it stands -/
structure Helper (P : Program) (w : World) (K : PySem.W.Frag) (mg : Str → Option Value) (base : Heap) (x : Str) (sp : L2.Sp) : Prop where
  ex : ∃ (f : Addr) (fd : FuncData) (ps : List Str), FnOk P w K mg base (L2.CX P w) 1 f fd ps sp ∧ mg x = some (.ref f) ∧ PySem.W.keepIn K (.ref f) = true ∧ Binds K fd ps []
/-- THE DEFS -/
theorem fn_all (L : LawC P w K mg base C glb bl exs) (hlaw : law = true → Helper P w K mg base "_law_draw" spDraw ∧ Helper P w K mg base "_law_town" (spTown K)) (h : ∀ x i ar, fns.lookup x = some (i, ar) → DefOk K mg tbl glb fns bl exs law x i ar) : ∀ k x i ar f fd ps, DefAt K mg tbl glb fns bl exs law x i ar f fd ps →
    FnOk P w K mg base (L2.CX P w) (k + 2) f fd ps (spF K w C (semT tbl k) (rdOf tbl) i ar) := by
  intro k
  induction k with
  | zero =>
    intro x i ar f fd ps hx
    obtain ⟨qual, st, N, cel, fn, F, S, hm, hb, ht, ha, hp, hio, hn, hs, hc⟩ := hx.ex
    exact ⟨fun vs H Q E q => absurd q (spF_stuck fun _ _ => rfl), fun A outer s H args us vs Q E _ _ _ _ q => absurd q (spF_stuck fun _ _ => rfl)⟩
  | succ k ih =>
    intro x i ar f fd ps hx
    obtain ⟨qual, st, N, cel, fn, F, S, hm, hb, ht, ha, hp, hio, hn, hs, hc⟩ := hx.ex
    refine F.okX S (fun vs H Q E q => by rw [q.1, hp]) fun cdv A outer s H vs Q E hr hsp => ?_
    obtain ⟨hl, ds, w0, G, gi, wr, hv, he⟩ := hsp
    have hd : ds.length = fn.ar := by rw [← Vals'.length hv, hl, ha]
    have hrd : rdOf tbl i = fn.rd := by unfold rdOf; rw [ht]; rfl
    have he : endF K w C fn.rd H G Q E (run (rdOf tbl) (semT tbl k) fn ds w0) := by
      have : semT tbl (k + 1) i ds w0 = run (rdOf tbl) (semT tbl k) fn ds w0 := by
        show (match tbl i with | some fn => run (rdOf tbl) (semT tbl k) fn ds w0 | none => RW.stuck) = _
        rw [ht]
      rw [this, hrd] at he
      exact he
    unfold run at he
    rw [if_pos hd] at he
    let M : Md := { X := cxOf (L2.CX P w) P w K mg base N qual (defScope st) f cdv A outer s H E, C := C, H0 := H, G0 := G, W := fun cls d _ H => E cls d H, sem := semT tbl k, rd := rdOf tbl }
    have tk : L2.Takes M.X M.W := L2.takes_of rfl rfl rfl rfl
    have ft : FitS ⟨N, defScope st, cel, glb, fns, bl, law⟩ exs M := by
      refine ⟨⟨rfl, S.nd, rfl, fun _ _ => rfl, rfl, ?_, fun y j a hy => ?_, L.glb, L.bl, tk, fun hw => ?_⟩, L2.passes_of rfl, S.kind, fun y hy hf => ?_, fun y hy hf => ?_⟩
      · have := hr.un
        show (A.deeper (envOfC qual (defScope st) s.heap.objs.size f cdv)).units + 65 < cLine
        omega
      · obtain ⟨f', fd', ps', D'⟩ := (h y j a hy).ex
        obtain ⟨_, _, _, _, _, G', _, hm', hb', _⟩ := D'.ex
        exact ⟨f', fd', ps', k + 2, ih y j a f' fd' ps' D', hr, hm', G'.kp, hb'⟩
      · obtain ⟨⟨f1, fd1, ps1, F1, m1, k1, b1⟩, ⟨f2, fd2, ps2, F2, m2, k2, b2⟩⟩ := hlaw hw
        exact ⟨⟨f1, fd1, ps1, 1, F1, hr.mono (by omega), m1, k1, b1⟩, ⟨f2, fd2, ps2, 1, F2, hr.mono (by omega), m2, k2, b2⟩⟩
      · have X := L.exc y hy
        rcases X.ex with ⟨_, B, newId, initId, bmB, F', q⟩ | ⟨e, _⟩
        · intro m j p p2 pos hg
          have hdb : (y == ("__debug__" : Str)) = false := X.db
          exact L2.pmk_own F' q X.mg X.kp (L2.raises_own X.sub X.ty) hg hdb
        · rw [hf] at e; cases e
      · have X := L.exc y hy
        rcases X.ex with ⟨e, _⟩ | ⟨_, T, n1, n2, fI, fd', iC, tI, F', hb'⟩
        · rw [hf] at e; cases e
        · exact ⟨⟨T, n1, n2⟩, fun e es ta p pos hg ha he hp => L2.pmk_oex T iC tI F' (hr.mono (by omega)) hb' .nil L2.passL hg X.mg ha X.db he hp⟩
    exact ⟨rdS M fn.rd fn.body, (sndS fn.body).b ft rfl _ hc, run_ok (M := M) (start_ok gi wr hv hl ha hn hs hio) rfl he⟩
end
end Hx
namespace Hx
open PySem PySem.Spec PyProof.Rows L2
def drawN : List Str := ["_law_town_here", "_law_count", "_law_numbers", "_law_at", "_law_cell", "_law_mixed"]
abbrev rA : R2 := rI0 fun i j => .int (i + j)
abbrev rM : R2 := rI CMul fun i j => .int (i * j)
abbrev rD : R2 := rI CDiv fun i j => .int (i / j)
abbrev rO : R2 := rI (fun _ j => 0 < j) fun i j => .int (i % j)
abbrev rP : R2 := rI CPow fun i j => .int (i ^ j.toNat)
abbrev rG : R2 := rI0 fun i j => .bl (decide (j ≤ i))
abbrev drawB (p1 p2 p3 p4 p5 p6 p7 p8 p9 p10 p11 p12 p13 p14 p15 p16 p17 p18 p19 p20 p21 p22 p23 p24 p25 p26 p27 p28 p29 p30 p31 p32 p33 p34 p35 p36 p37 p38 p39 p40 p41 p42 p43 p44 p45 p46 p47 p48 p49 p50 p51 p52 p53 p54 p55 p56 p57 p58 p59 p60 p61 p62 p63 p64 p65 p66 p67 p68 p69 p70 p71 p72 p73 p74 p75 : Pos) : List Stmt :=
  [(.Assign [.Name "_law_numbers" p4] (.Subscript (.Name "_law_town_here" p1) (.Constant (.int 0) 0 p2) p3) p5),
  (.Assign [.Subscript (.Name "_law_town_here" p11) (.Constant (.int 1) 0 p12) p13] (.BinOp (.Subscript (.Name "_law_town_here" p6) (.Constant (.int 1) 0 p7) p8) .Add (.Constant (.int 1) 0 p9) p10) p14),
  (.Assign [.Name "_law_at" p22] (.BinOp (.Subscript (.Name "_law_town_here" p15) (.Constant (.int 1) 0 p16) p17) .Mod (.Call (.Name "len" p18) [(.Name "_law_numbers" p19)] [] p20) p21) p23),
  (.Assign [.Name "_law_cell" p27] (.Subscript (.Name "_law_numbers" p24) (.Name "_law_at" p25) p26) p28),
  (.If (.Compare (.Name "_law_cell" p29) [.GtE] [(.Constant (.int 1000000000000000000) 0 p30)] p42) [(.Assign [.Subscript (.Name "_law_numbers" p34) (.Name "_law_at" p35) p36] (.BinOp (.Name "_law_cell" p31) .FloorDiv (.Name "_law_count" p32) p33) p37),
  (.Return (some (.BinOp (.Name "_law_cell" p38) .Mod (.Name "_law_count" p39) p40)) p41)] [] p43),
  (.Assign [.Name "_law_mixed" p53] (.BinOp (.BinOp (.Name "_law_cell" p44) .Add (.BinOp (.Constant (.int 104729) 0 p45) .Mult (.Subscript (.Name "_law_town_here" p46) (.Constant (.int 1) 0 p47) p48) p49) p50) .Mod (.Constant (.int 4294967291) 0 p51) p52) p54),
  (.Assign [.Name "_law_mixed" p60] (.BinOp (.BinOp (.Name "_law_mixed" p55) .Pow (.Constant (.int 5) 0 p56) p57) .Mod (.Constant (.int 4294967279) 0 p58) p59) p61),
  (.Return (some (.BinOp (.BinOp (.BinOp (.BinOp (.BinOp (.BinOp (.Name "_law_mixed" p62) .FloorDiv (.Constant (.int 64) 0 p63) p64) .Mult (.Constant (.int 69621) 0 p65) p66) .Add (.Name "_law_mixed" p67) p68) .Mod (.Constant (.int 4294967231) 0 p69) p70) .FloorDiv (.Constant (.int 8) 0 p71) p72) .Mod (.Name "_law_count" p73) p74)) p75)]
def tDraw (K : PySem.W.Frag) : TS :=
  (tSeq (tAsg (tOp (rIxL K) (tVar 0) (tC (.int 0))) (gName 2))
  (tSeq (tAsg (tOp rA (tOp (rIxL K) (tVar 0) (tC (.int 1))) (tC (.int 1))) (gSub (tVar 0) (tC (.int 1)) rSetL))
  (tSeq (tAsg (tOp rO (tOp (rIxL K) (tVar 0) (tC (.int 1))) (tCB (rLen K) (tCons (tVar 2) tNil))) (gName 3))
  (tSeq (tAsg (tOp (rIxL K) (tVar 2) (tVar 3)) (gName 4))
  (tSeq (tIfS (tTest (tOp rG (tVar 4) (tC (.int 1000000000000000000)))) (tSeq (tAsg (tOp rD (tVar 4) (tVar 1)) (gSub (tVar 2) (tVar 3) rSetL))
  (tRet (tOp rO (tVar 4) (tVar 1)))) tNext)
  (tSeq (tAsg (tOp rO (tOp rA (tVar 4) (tOp rM (tC (.int 104729)) (tOp (rIxL K) (tVar 0) (tC (.int 1))))) (tC (.int 4294967291))) (gName 5))
  (tSeq (tAsg (tOp rO (tOp rP (tVar 5) (tC (.int 5))) (tC (.int 4294967279))) (gName 5))
  (tRet (tOp rO (tOp rD (tOp rO (tOp rA (tOp rM (tOp rD (tVar 5) (tC (.int 64))) (tC (.int 69621))) (tVar 5)) (tC (.int 4294967231))) (tC (.int 8))) (tVar 1))))))))))
theorem pss_draw {X : Cx} {p1 p2 p3 p4 p5 p6 p7 p8 p9 p10 p11 p12 p13 p14 p15 p16 p17 p18 p19 p20 p21 p22 p23 p24 p25 p26 p27 p28 p29 p30 p31 p32 p33 p34 p35 p36 p37 p38 p39 p40 p41 p42 p43 p44 p45 p46 p47 p48 p49 p50 p51 p52 p53 p54 p55 p56 p57 p58 p59 p60 p61 p62 p63 p64 p65 p66 p67 p68 p69 p70 p71 p72 p73 p74 p75 : Pos} (hN : X.N = drawN) (hl : ∀ x ∈ drawN, X.env.scope.names.lookup x = some .local) (hg : Gl X "len") (hm : X.mg "len" = none) : PSs X (drawB p1 p2 p3 p4 p5 p6 p7 p8 p9 p10 p11 p12 p13 p14 p15 p16 p17 p18 p19 p20 p21 p22 p23 p24 p25 p26 p27 p28 p29 p30 p31 p32 p33 p34 p35 p36 p37 p38 p39 p40 p41 p42 p43 p44 p45 p46 p47 p48 p49 p50 p51 p52 p53 p54 p55 p56 p57 p58 p59 p60 p61 p62 p63 p64 p65 p66 p67 p68 p69 p70 p71 p72 p73 p74 p75) (tDraw X.K) := by
  have pd : ∀ (i : Fin 6) {pos : Pos}, PE X (.Name drawN[i] pos) (tVar i) := fun i pos => pe_var (by rw [hN]; exact List.getElem?_eq_getElem i.2) (.inl (hl _ (List.getElem_mem _))) (by revert i; decide) (by revert i; decide)
  have sd : ∀ (i : Fin 6) {pos pos' : Pos} {e : Expr} {te : TE}, PE X e te → plainX e = true → isComp e = false → PS X (.Assign [.Name drawN[i] pos] e pos') (tAsg te (gName i)) := fun i pos pos' e te h hp hc => ps_set (by rw [hN]; decide) (by rw [hN]; exact List.getElem?_eq_getElem i.2) (.inl (hl _ (List.getElem_mem _))) h (by cases e <;> first | rfl | (cases hp; done) | (cases hc; done)) (.inr (hl _ (List.getElem_mem _)))
  have pd0 : ∀ {pos : Pos}, PE X (.Name "_law_town_here" pos) (tVar 0) := fun {pos} => pd 0
  have pd1 : ∀ {pos : Pos}, PE X (.Name "_law_count" pos) (tVar 1) := fun {pos} => pd 1
  have pd2 : ∀ {pos : Pos}, PE X (.Name "_law_numbers" pos) (tVar 2) := fun {pos} => pd 2
  have pd3 : ∀ {pos : Pos}, PE X (.Name "_law_at" pos) (tVar 3) := fun {pos} => pd 3
  have pd4 : ∀ {pos : Pos}, PE X (.Name "_law_cell" pos) (tVar 4) := fun {pos} => pd 4
  have pd5 : ∀ {pos : Pos}, PE X (.Name "_law_mixed" pos) (tVar 5) := fun {pos} => pd 5
  have sd2 : ∀ {pos pos' : Pos} {e : Expr} {te : TE}, PE X e te → plainX e = true → isComp e = false → PS X (.Assign [.Name "_law_numbers" pos] e pos') (tAsg te (gName 2)) := fun h a b => sd 2 h a b
  have sd3 : ∀ {pos pos' : Pos} {e : Expr} {te : TE}, PE X e te → plainX e = true → isComp e = false → PS X (.Assign [.Name "_law_at" pos] e pos') (tAsg te (gName 3)) := fun h a b => sd 3 h a b
  have sd4 : ∀ {pos pos' : Pos} {e : Expr} {te : TE}, PE X e te → plainX e = true → isComp e = false → PS X (.Assign [.Name "_law_cell" pos] e pos') (tAsg te (gName 4)) := fun h a b => sd 4 h a b
  have sd5 : ∀ {pos pos' : Pos} {e : Expr} {te : TE}, PE X e te → plainX e = true → isComp e = false → PS X (.Assign [.Name "_law_mixed" pos] e pos') (tAsg te (gName 5)) := fun h a b => sd 5 h a b
  exact (pss_cons (sd2 (pe_ix ix_list pd0 pe_int (ix_plain rfl)) rfl rfl)
  (pss_cons (L2.ps_asg (pe_op op_add (pe_ix ix_list pd0 pe_int (ix_plain rfl)) pe_int) (pg_sub pd0 pe_int set_list))
  (pss_cons (sd3 (pe_op op_mod (pe_ix ix_list pd0 pe_int (ix_plain rfl)) (pe_callB call_len hg hm boot_len (pa_cons pd2 pa_nil))) rfl rfl)
  (pss_cons (sd4 (pe_ix ix_list pd2 pd3 (ix_plain rfl)) rfl rfl)
  (pss_cons (ps_if (pt_cmpR op_ge pd4 pe_int rfl) (pss_cons (L2.ps_asg (pe_op op_fdiv pd4 pd1) (pg_sub pd2 pd3 set_list))
  (pss_one (ps_ret (pe_op op_mod pd4 pd1)))) pss_nil)
  (pss_cons (sd5 (pe_op op_mod (pe_op op_add pd4 (pe_op op_mul pe_int (pe_ix ix_list pd0 pe_int (ix_plain rfl)))) pe_int) rfl rfl)
  (pss_cons (sd5 (pe_op op_mod (pe_op op_pow pd5 pe_int) pe_int) rfl rfl)
  (pss_one (ps_ret (pe_op op_mod (pe_op op_fdiv (pe_op op_mod (pe_op op_add (pe_op op_mul (pe_op op_fdiv pd5 pe_int) pe_int) pd5) pe_int) pe_int) pd1))))))))))
theorem ixN_ofNat {n j : Nat} (hj : j < n) : ixN n (j : Int) = some j := by
  unfold ixN
  rw [if_pos (by omega), if_pos (by omega)]
  simp
theorem draw_run {K : PySem.W.Frag} {vs : List V} {H : Hp} {Q : VK} {E : XK} (h : spDraw vs H Q E) : tDraw K { nx := fun _ H' => Q .non H', rt := Q } (L2.start drawN vs) H := by
  obtain ⟨a, aN, ns, c, n, r, w', rfl, hne, ha, hn, hl, hc, hd, q⟩ := h
  unfold drawW at hd
  simp only at hd
  have hn0 : 0 < n ∧ n < 1073741824 := by
    by_cases hh : 0 < n ∧ n < 1073741824
    · exact hh
    · rw [if_neg hh] at hd; cases hd
  rw [if_pos hn0] at hd
  generalize hk : ((c + 1) % (ns.length : Int)).toNat = k at hd
  cases hcell : ns[k]? with
  | none => rw [hcell] at hd; cases hd
  | some cell =>
    rw [hcell] at hd
    simp only at hd
    have hkl : k < ns.length := (List.getElem?_eq_some_iff.mp hcell).1
    have hpos : (0 : Int) < (ns.length : Int) := by omega
    have hki : (c + 1) % (ns.length : Int) = (k : Int) := by
      rw [← hk, Int.toNat_of_nonneg (Int.emod_nonneg _ (by omega))]
    let H1 := upd H a (.lst [.ref aN, .int (c + 1)])
    have ha1 : H1 a = some (.lst [.ref aN, .int (c + 1)]) := upd_same
    have hn1 : H1 aN = some (.lst (ns.map V.int)) := by show upd H a _ aN = _; rw [upd_ne (Ne.symm hne)]; exact hn
    have ix : ixN (ns.map V.int).length (k : Int) = some k := ixN_ofNat (by rw [List.length_map]; exact hkl)
    have atk : atI (ns.map V.int) (k : Int) = some (.int cell) := by
      unfold atI
      rw [ix]
      show (ns.map V.int)[k]? = _
      rw [List.getElem?_map, hcell]
      rfl
    refine ⟨_, rfl, a, _, 0, .ref aN, rfl, rfl, SqL.of ha, rfl, ?_⟩
    refine ⟨_, rfl, a, _, 1, .int c, rfl, rfl, SqL.of ha, rfl, c, 1, rfl, rfl, ?_⟩
    refine ⟨_, rfl, a, _, 1, 1, rfl, rfl, ha, rfl, ?_⟩
    refine ⟨_, rfl, a, _, 1, .int (c + 1), rfl, rfl, SqL.of ha1, rfl, ?_⟩
    refine ⟨_, rfl, .ref aN, ((ns.map V.int).length : Nat), rfl, .inl ⟨_, SqL.of hn1, rfl⟩, c + 1, ((ns.map V.int).length : Nat), rfl, rfl, by rw [List.length_map]; exact hpos, ?_⟩
    rw [List.length_map]
    show gName 3 (.int ((c + 1) % (ns.length : Int))) _ H1 _
    rw [hki]
    refine ⟨_, rfl, _, rfl, aN, _, (k : Int), .int cell, rfl, rfl, SqL.of hn1, atk, ?_⟩
    refine ⟨_, rfl, cell, 1000000000000000000, rfl, rfl, _, rfl, ?_⟩
    by_cases hb : (1000000000000000000 : Int) ≤ cell
    · rw [if_pos hb] at hd
      rw [if_pos (decide_eq_true hb)]
      cases hd
      refine ⟨_, rfl, _, rfl, cell, n, rfl, rfl, ⟨hn0.1, hn0.2⟩, ?_⟩
      refine ⟨_, rfl, _, rfl, aN, _, (k : Int), k, rfl, rfl, hn1, ix, ?_⟩
      refine ⟨_, rfl, _, rfl, cell, n, rfl, rfl, hn0.1, ?_⟩
      have := q _ _ rfl
      rw [List.map_set] at this
      exact this
    · rw [if_neg hb] at hd
      rw [if_neg (by simpa using hb)]
      cases hd
      have hQ := q _ _ rfl
      have eH : upd (upd H a (.lst [.ref aN, .int (c + 1)])) aN (.lst (ns.map V.int)) = H1 := by
        funext b
        by_cases e : b = aN
        · subst e; rw [upd_same]; exact hn1.symm
        · rw [upd_ne e]
      rw [eH] at hQ
      generalize hm : (cell + 104729 * (c + 1)) % 4294967291 = m0 at hQ
      have m0b : 0 ≤ m0 ∧ m0 < 4294967291 := by
        rw [← hm]
        exact ⟨Int.emod_nonneg _ (by decide), Int.emod_lt_of_pos _ (by decide)⟩
      generalize hm1 : m0 ^ 5 % 4294967279 = m1 at hQ
      have m1b : 0 ≤ m1 ∧ m1 < 4294967279 := by
        rw [← hm1]
        exact ⟨Int.emod_nonneg _ (by decide), Int.emod_lt_of_pos _ (by decide)⟩
      refine ⟨_, rfl, _, rfl, a, _, 1, .int (c + 1), rfl, rfl, SqL.of ha1, rfl, 104729, c + 1, rfl, rfl, .inl (by decide), ?_⟩
      refine ⟨cell, 104729 * (c + 1), rfl, rfl, _, 4294967291, rfl, rfl, (show (0 : Int) < 4294967291 by decide), ?_⟩
      show gName 5 (.int ((cell + 104729 * (c + 1)) % 4294967291)) _ _ _
      rw [hm]
      refine ⟨_, rfl, m0, 5, rfl, rfl, ⟨by decide, by decide, by omega⟩, _, 4294967279, rfl, rfl, (show (0 : Int) < 4294967279 by decide), ?_⟩
      show gName 5 (.int (m0 ^ 5 % 4294967279)) _ _ _
      rw [hm1]
      refine ⟨_, rfl, m1, 64, rfl, rfl, ⟨by decide, by decide⟩, _, 69621, rfl, rfl, .inr (by decide), ?_⟩
      refine ⟨_, rfl, _, m1, rfl, rfl, _, 4294967231, rfl, rfl, (show (0 : Int) < 4294967231 by decide), _, 8, rfl, rfl, ⟨by decide, by decide⟩, ?_⟩
      exact ⟨_, rfl, _, n, rfl, rfl, hn0.1, hQ⟩
section
variable {P : Program} {w : World} {K : PySem.W.Frag} {mg : Str → Option Value} {base : Heap}
theorem ok_draw {qual : Str} {st : Stmt} {f : Addr} {fd : FuncData} {k : Nat} (F : L2.Fun K "_law_draw" qual st f fd) (S : FnScope drawN ["_law_town_here", "_law_count"] (defScope st)) (hl : ∀ x ∈ drawN, (defScope st).names.lookup x = some .local)
    (hg : (defScope st).names.lookup ("len" : Str) = some .globalImplicit) (hm : mg "len" = none) (hb : ∀ X : Cx, X.N = drawN → (∀ x ∈ drawN, X.env.scope.names.lookup x = some .local) → Gl X "len" → X.mg "len" = none → PSs X (defBody st) (tDraw X.K)) :
    FnOk P w K mg base (L2.CX P w) (k + 1) f fd ["_law_town_here", "_law_count"] spDraw := by
  refine F.okX S (fun vs H Q E q => by obtain ⟨a, aN, ns, c, n, r, w', rfl, _⟩ := q; rfl) fun cdv A outer s H vs Q E hr hsp => ⟨_, hb _ rfl hl hg hm, draw_run hsp⟩
end
end Hx
namespace Hx
open PySem PySem.Spec PyProof.Rows L2
abbrev townB (p1 p2 p3 p4 p5 p6 p7 p8 p9 p10 p11 p12 : Pos) : List Stmt :=
  [.Return (some (.List [.IfExp (.Compare (.Name "_law_script" p1) [.NotEq] [.List [] p2] p3) (.Call (.Name "list" p4) [.Name "_law_script" p5] [] p6) (.List [.Constant (.int 0) 0 p7] p8) p9, .Constant (.int 0) 0 p10] p11)) p12]
def rLstS (K : PySem.W.Frag) : List V → Hp → VK → Prop := fun xs H Q => ∃ p ys, xs = [.ref p] ∧ (SqL K H p ys ∨ SqT K H p ys) ∧ ∀ l, H l = none → Q (.ref l) (upd H l (.lst ys))
def tTown (K : PySem.W.Frag) : TS := tRet (tLst (tCons (tIf (tTest (tOp (rNeD K) (tVar 0) (tLst tNil))) (tCB (rLstS K) (tCons (tVar 0) tNil)) (tLst (tCons (tC (.int 0)) tNil))) (tCons (tC (.int 0)) tNil)))
theorem pss_town {X : Cx} {p1 p2 p3 p4 p5 p6 p7 p8 p9 p10 p11 p12 : Pos} (hu : X.A.units + 65 < cLine) (hN : X.N = [("_law_script" : Str)]) (hl : X.env.scope.names.lookup ("_law_script" : Str) = some .local) (hg : Gl X "list") (hm : X.mg "list" = none) : PSs X (townB p1 p2 p3 p4 p5 p6 p7 p8 p9 p10 p11 p12) (tTown X.K) := by
  have pd : ∀ {pos : Pos}, PE X (.Name "_law_script" pos) (tVar 0) := fun {pos} => pe_var (by rw [hN]; rfl) (.inl hl)
  exact pss_one (ps_ret (pe_lst (pa_cons (pe_ifExp (pt_cmpR (op_neD (by omega)) pd (pe_lst pa_nil) rfl) (pe_callTy call_list_of hg hm (bt_ty .list) (pa_cons pd pa_nil)) (pe_lst (pa_cons pe_int pa_nil))) (pa_cons pe_int pa_nil))))
theorem ints_plain : ∀ ns : List Int, D.plain.plains (ns.map D.int) = true ∧ D.depth.deps (ns.map D.int) = 0 ∧ D.py.pys (ns.map D.int) = ns.map PyData.int
  | [] => ⟨rfl, rfl, rfl⟩
  | n :: ns => by
    obtain ⟨h1, h2, h3⟩ := ints_plain ns
    refine ⟨?_, ?_, ?_⟩
    · show (true && D.plain.plains (ns.map D.int)) = true
      rw [h1]; rfl
    · show max 0 (D.depth.deps (ns.map D.int)) = 0
      rw [h2]; rfl
    · show PyData.int n :: D.py.pys (ns.map D.int) = _
      rw [h3]; rfl
theorem ints_shaped (ns : List Int) : SeqAt.shaped (.list (ns.map PyData.int)) = true := by
  obtain ⟨h1, h2, h3⟩ := ints_plain ns
  have := (okEq_shaped (a := .lst (ns.map D.int)) (by
    unfold okEq
    rw [Bool.and_eq_true]
    refine ⟨h1, decide_eq_true ?_⟩
    show D.depth.deps (ns.map D.int) + 1 ≤ 60
    rw [h2]; decide)).2.1
  have e : (D.lst (ns.map D.int)).py = .list (ns.map PyData.int) := by show PyData.list (D.py.pys (ns.map D.int)) = _; rw [h3]
  rw [e] at this
  exact this
theorem town_run {K : PySem.W.Frag} {vs : List V} {H : Hp} {Q : VK} {E : XK} (h : spTown K vs H Q E) : tTown K { nx := fun _ H' => Q .non H', rt := Q } (L2.start [("_law_script" : Str)] vs) H := by
  obtain ⟨a, ns, rfl, hs, hl, q⟩ := h
  have dpa : ∀ {H1 : Hp} (ns : List Int), DpAll K H1 (ns.map V.int) (ns.map PyData.int) := fun {H1} ns => by
    induction ns with
    | nil => exact .nil
    | cons n ns ih => exact .cons (.int n) ih
  have sqg : ∀ {H1 : Hp} (ns : List Int), (∀ b o, H b = some o → H1 b = some o) → SqL K H a (ns.map V.int) → SqL K H1 a (ns.map V.int) := fun {H1} ns k h => by
    rcases h with (h | ⟨ob, h⟩) | h
    · exact .inl (.inl (k _ _ h))
    · exact .inl (.inr ⟨ob, k _ _ h⟩)
    · exact .inr h
  refine ⟨_, rfl, by decide, fun p0 hp0 => ?_⟩
  have g0 : ∀ b o, H b = some o → upd H p0 (.lst []) b = some o := grow_upd hp0
  refine ⟨.list (ns.map PyData.int), .list [], .lst (sqg ns g0 hs) (dpa ns), .lst (SqL.of upd_same) .nil, ints_shaped ns, rfl, _, rfl, ?_⟩
  have fin : ∀ (H1 : Hp) (aN : Addr), (∀ b o, upd H p0 (.lst []) b = some o → H1 b = some o) → upd H p0 (.lst []) aN = none → H1 aN = some (.lst ((if ns = [] then [0] else ns).map V.int)) →
      2 ≤ sizeLine ∧ ∀ p, H1 p = none → Q (.ref p) (upd H1 p (.lst [.ref aN, .int 0])) := fun H1 aN k hn h1 => ⟨by decide, fun p hp => by
    have hne : p ≠ aN := fun e => by rw [e, h1] at hp; cases hp
    refine q _ p aN (fun b o e => ?_) hne ?_ ?_ upd_same ?_
    · exact grow_upd hp b o (k b o (g0 b o e))
    · cases e : H p with
      | none => rfl
      | some o => rw [k p o (g0 p o e)] at hp; cases hp
    · cases e : H aN with
      | none => rfl
      | some o => rw [g0 aN o e] at hn; cases hn
    · rw [upd_ne (Ne.symm hne)]; exact h1⟩
  by_cases he : ns = []
  · subst he
    show if (!PyData.eqv (.list []) (.list [])) = true then _ else _
    rw [if_neg (by decide)]
    refine ⟨by decide, fun aN hn => ?_⟩
    exact fin _ aN (grow_upd hn) hn (by rw [upd_same]; rfl)
  · have hne : (!PyData.eqv (.list (ns.map PyData.int)) (.list [])) = true := by
      cases ns with
      | nil => exact absurd rfl he
      | cons n ns => rfl
    show if (!PyData.eqv (.list (ns.map PyData.int)) (.list [])) = true then _ else _
    rw [if_pos hne]
    refine ⟨_, rfl, a, _, rfl, .inl (sqg ns g0 hs), fun aN hn => ?_⟩
    exact fin _ aN (grow_upd hn) hn (by rw [upd_same, if_neg he])
section
variable {P : Program} {w : World} {K : PySem.W.Frag} {mg : Str → Option Value} {base : Heap}
theorem ok_town {qual : Str} {st : Stmt} {f : Addr} {fd : FuncData} {k : Nat} (F : L2.Fun K "_law_town" qual st f fd) (S : FnScope ["_law_script"] ["_law_script"] (defScope st)) (hl : (defScope st).names.lookup ("_law_script" : Str) = some .local)
    (hg : (defScope st).names.lookup ("list" : Str) = some .globalImplicit) (hm : mg "list" = none) (hb : ∀ X : Cx, X.A.units + 65 < cLine → X.N = [("_law_script" : Str)] → X.env.scope.names.lookup ("_law_script" : Str) = some .local → Gl X "list" → X.mg "list" = none → PSs X (defBody st) (tTown X.K)) :
    FnOk P w K mg base (L2.CX P w) (k + 1) f fd ["_law_script"] (spTown K) := by
  refine F.okX S (fun vs H Q E q => by obtain ⟨a, ns, rfl, _⟩ := q; rfl) fun cdv A outer s H vs Q E hr hsp => ⟨_, hb _ (by
    have := hr.un
    show (A.deeper (envOfC qual (defScope st) s.heap.objs.size f cdv)).units + 65 < cLine
    omega) rfl hl hg hm, town_run hsp⟩
end
end Hx
namespace Hx
open PySem PySem.Spec PyProof.Rows L2
def oexB (K : PySem.W.Frag) (C : Addr) : Bool := (match K.lookup C with
  | some ⟨.type t, _, .cls cd, sl⟩ => (match cd.mro, sl.toList with
    | .ref C' :: bm, [_, _, _, _, some (.builtin n), _] => t == "type" && C' == C && n == "ValueError.__new__" && !cd.hasDel && cd.hasDict && PySem.HandSPX.refsVE bm
    | _, _ => false)
  | _ => false) && He.eqO (PySem.W.findIn K (.ref C) "__setattr__") (some (some (.builtin "object.__setattr__"))) && decide (PySem.W.subIn K (.ref C) (.type "BaseException") = some true) && decide (PySem.W.typeIn K (.ref C) = some (.type "type")) && PySem.W.keepIn K (.ref C)
theorem oex_of {K : PySem.W.Frag} {C : Addr} (h : oexB K C = true) : OexC K C := by
  unfold oexB at h
  simp only [Bool.and_eq_true, decide_eq_true_eq] at h
  obtain ⟨⟨⟨⟨q, h2⟩, h3⟩, h4⟩, h5⟩ := h
  refine ⟨?_, He.eqO_ok h2, h3, h4, h5⟩
  split at q
  · rename_i t dd cd sl ho
    split at q
    · rename_i C' bm k0 k1 k2 k3 n k5 hm hs
      simp only [Bool.and_eq_true, beq_iff_eq, Bool.not_eq_true'] at q
      obtain ⟨⟨⟨⟨⟨rfl, rfl⟩, rfl⟩, hdel⟩, hdict⟩, ht⟩ := q
      obtain ⟨nm, bs, mro, ns, qn, hd, sn, sub, ab, col, del⟩ := cd
      dsimp only at hm hdel hdict
      subst hm hdel hdict
      have hsl : sl = #[k0, k1, k2, k3, some (.builtin "ValueError.__new__"), k5] := by
        obtain ⟨l⟩ := sl
        simp only at hs
        rw [hs]
      subst hsl
      exact ⟨nm, qn, ns, bs, bm, sn, sub, ab, col, dd, k0, k1, k2, k3, k5, ho, ht⟩
    · cases q
  · cases q
def xfB (K : PySem.W.Frag) (x : Str) : Bool := oexB K (He.ga K x) && (He.Fa.meth x "__init__").ok K && (He.Fa.noat x "beat").ok K && (He.Fa.noat x "line").ok K
def obsX (fa : List He.Fa) (fn : List He.DefD) (xs : List Str) (K : PySem.W.Frag) : He.AlD := ((He.obsD fa fn K).1 && xs.all (xfB K), (He.obsD fa fn K).2)
structure SaysX (fa : List He.Fa) (fn : List He.DefD) (xs : List Str) (K : PySem.W.Frag) : Prop where
  d : He.SaysD fa fn K
  x : ∀ x ∈ xs, xfB K x = true
theorem saysX_of {fa : List He.Fa} {fn : List He.DefD} {xs : List Str} {K : PySem.W.Frag} (h : obsX fa fn xs K = He.valD fn) : SaysX fa fn xs K := by
  have h1 : ((He.obsD fa fn K).1 && xs.all (xfB K)) = true := congrArg (fun z : He.AlD => z.1) h
  have h2 : (He.obsD fa fn K).2 = fn.map He.DefD.val := congrArg (fun z : He.AlD => z.2) h
  rw [Bool.and_eq_true, List.all_eq_true] at h1
  exact ⟨Prod.ext h1.1 h2, h1.2⟩
def obsXG (n : Nat) (fa : List He.Fa) (fn : List He.DefD) (xs : List Str) (g : Addr → Option Obj) : He.AlD := obsX fa fn xs (He.frG g (He.asD g n))
def hookX (n : Nat) (fa : List He.Fa) (fn : List He.DefD) (xs : List Str) : PySem.W.Hook where
  α := He.AlD
  obs := fun s => obsXG n fa fn xs s.heap.get?
  val := fun _ => He.valD fn
  says := fun _ h => ∃ K : PySem.W.Frag, K.In h ∧ SaysX fa fn xs K
  of := fun _ _ e => ⟨_, He.frG_in, saysX_of e⟩
  keeps := fun _ _ _ ⟨K, hK, c⟩ k => ⟨K, PySem.W.Frag.In.keeps hK k, c⟩
theorem obsXG_eq {n : Nat} {fa : List He.Fa} {fn : List He.DefD} {xs : List Str} {g : Addr → Option Obj} {s : Shared} (h : ∀ a, g a = s.heap.get? a) : obsXG n fa fn xs g = (hookX n fa fn xs).obs s := by
  have e : g = s.heap.get? := funext h
  rw [e] <;> rfl
theorem fun_of {K : PySem.W.Frag} {x qual : Str} {st : Stmt} {f : Addr} {fd : FuncData} (F : FunD K x qual (defArgs st) (defBody st) (defScope st) [] [] f fd) : L2.Fun K x qual st f fd := by
  obtain ⟨oc, od, dV, kV, doc, pm, an, cdv, ct, osl, h1, h2, h3, h4, h5⟩ := F.ex
  rcases h4 with ⟨_, rfl⟩ | ⟨e, _⟩
  · exact ⟨⟨oc, od, kV, doc, pm, an, cdv, ct, osl, h1, h2, h3⟩, F.kp⟩
  · exact absurd rfl e
section
variable {P : Program} {w : World} {K : PySem.W.Frag} {mg : Str → Option Value} {base : Heap}
theorem exc_here {x : Str} (hf : fieldsOf x = []) (hm : mg x = some (.ref (He.ga K x))) (c : (He.Fa.exc x).ok K = true) (db : (x == ("__debug__" : Str)) = false) : ExcHere P w K mg base (He.ga K) x := by
  obtain ⟨c1, c2, c3, c4⟩ := He.exc_ok c
  exact ⟨.inl ⟨hf, "ValueError", _, _, _, F.excBase_ValueError, c1⟩, hm, c2, c3, c4, db⟩
theorem exf_here {x : Str} {fI : Addr} {fd : FuncData} (hf : fieldsOf x = (["beat", "line"] : List Str)) (hm : mg x = some (.ref (He.ga K x))) (c : xfB K x = true) (db : (x == ("__debug__" : Str)) = false) (hI : He.ma K (He.ga K x) "__init__" = fI)
    (F : FnOk P w K mg base (L2.CX P w) 1 fI fd initN (spInit K (He.ga K x))) (hb : Binds K fd initN []) : ExcHere P w K mg base (He.ga K) x := by
  unfold xfB at c
  simp only [Bool.and_eq_true] at c
  obtain ⟨⟨⟨c1, c2⟩, c3⟩, c4⟩ := c
  have T := oex_of c1
  have m := He.meth_ok c2
  refine ⟨.inr ⟨hf, T, He.noat_ok c3, He.noat_ok c4, fI, fd, ?_, ?_, F, hb⟩, hm, T.kC, T.exC, T.tyC, db⟩
  · rw [← hI]; exact m.at_
  · rw [← hI]; exact eq_of_beq m.fn
/-- what is let out, at any world -/
def CXw (P : Program) : CXT := fun outer H s E u s' => ∃ w : World, L2.CX P w outer H s E u s'
theorem fn_exw {k : Nat} {f : Addr} {fd : FuncData} {ps : List Str} {sp : L2.Sp} (F : FnOk P w K mg base (L2.CX P w) k f fd ps sp) : FnOk P w K mg base (CXw P) k f fd ps sp :=
  ⟨F.len, fun A outer s H args us vs Q E hr e0 hb r h => codeAny_mono (F.run A outer s H args us vs Q E hr e0 hb r h) fun r s' z => by
    cases r with
    | error er => exact ⟨w, z⟩
    | ok fl => cases fl <;> exact z⟩
theorem cxw_no (H : Hp) (s : Shared) (e : Value) (s' : Shared) (h : CXw P [] H s (fun _ _ _ => False) e s') : False := by
  obtain ⟨w, _, _, _, _, _, _, _, _, _, _, _, _, z⟩ := h
  exact z
/-- the law's own promise at its script -/
theorem law_sp {C : Str → Addr} {sem : Sem} {rd : Nat → Nat} {i : Nat} {H : Hp} {a : Addr} {ns : List Int} {o : List D} {w' : Wd} (hr : sem i [.scr ns] none = .ok (.bl true) o w') (hO : Only H) (hS : SqL K H a (ns.map V.int)) :
    spF K w C sem rd i 1 [.ref a] H (fun v _ => v = .bl true) fun _ _ _ => False := by
  refine ⟨rfl, [.scr ns], none, ⟨fun _ => False, fun _ => False, fun _ => False⟩, ⟨fun _ h => h.elim, fun _ h => h.elim, fun _ h => h.elim⟩, ⟨fun _ h => h, fun _ h => h⟩, ?_, ?_⟩
  · unfold Val.Vals' Val Val.Vals'
    refine ⟨_, _, rfl, ⟨a, rfl, ?_⟩, rfl⟩
    rcases hS with (h | ⟨ob, h⟩) | h
    · rcases hO a with e | ⟨ob, xs, e⟩
      · rw [e] at h; cases h
      · rw [e] at h; cases h
    · exact .inr ⟨ob, h⟩
    · exact .inl h
  · rw [hr]
    intro v H' G' fp r ow nd hf
    unfold Own Val at ow
    exact ow.1
theorem lookup_mem {α β : Type} [BEq α] [LawfulBEq α] {l : List (α × β)} {x : α} {y : β} (h : l.lookup x = some y) : (x, y) ∈ l := by
  induction l with
  | nil => cases h
  | cons p l ih =>
    obtain ⟨a, b⟩ := p
    rw [List.lookup_cons] at h
    split at h
    · rename_i e
      cases h
      rw [eq_of_beq e]
      exact .head _
    · exact .tail _ (ih h)
theorem all_cons {α : Type} {P : α → Prop} {a : α} {l : List α} (h : P a) (t : ∀ x ∈ l, P x) : ∀ x ∈ a :: l, P x := fun x hx => by
  rcases List.mem_cons.mp hx with rfl | hx
  · exact h
  · exact t x hx
theorem all_nil {α : Type} {P : α → Prop} : ∀ x ∈ ([] : List α), P x := fun _ h => nomatch h
end
end Hx
namespace Hx
def f_is_whole : Fn :=
  { ar := 3, sl := 3, rd := 0, io := [], body :=
  (.ret (.and (.isi (.var 0) .int) (.and (.not (.isi (.var 0) .bool)) (.chn .le .le (.var 1) (.var 0) (.var 2))))) }
def f_is_throw : Fn :=
  { ar := 2, sl := 2, rd := 0, io := [], body :=
  (.seq (.ite (.or (.not (.isi (.var 0) .tuple)) (.cmp .ne (.prm .len (.cons (.var 0) .nil)) (.cst (.int 2))))
  (.ret (.cst (.bl false)))
  .skip)
  (.ret (.and (.call 0 (.cons (.idx (.var 0) (.cst (.int 0))) (.cons (.cst (.int 1)) (.cons (.glb (.int 15)) .nil)))) (.call 0 (.cons (.idx (.var 0) (.cst (.int 1))) (.cons (.cst (.int 0)) (.cons (.bin .sub (.var 1) (.cst (.int 1))) .nil))))))) }
def f_is_beat : Fn :=
  { ar := 2, sl := 4, rd := 0, io := [], body :=
  (.seq (.ite (.or (.not (.isi (.var 0) .tuple)) (.cmp .ne (.prm .len (.cons (.var 0) .nil)) (.var 1)))
  (.ret (.cst (.bl false)))
  .skip)
  (.seq (.fr (.v 2) (.iit (.var 0))
  (.seq (.ite (.or (.not (.isi (.var 2) .tuple)) (.or (.cmp .gt (.prm .len (.cons (.var 2) .nil)) (.glb (.int 4))) (.not (.prm .all (.cons (.comp [3] (.gfor (.v 3) (.iit (.var 2)) (.cst (.bl true)) (.gelt (.call 1 (.cons (.var 3) (.cons (.var 1) .nil)))))) .nil)))))
  (.ret (.cst (.bl false)))
  .skip)
  (.ite (.cmp .ne (.prm .list (.cons (.var 2) .nil)) (.rev (.prm .sorted (.cons (.var 2) .nil))))
  (.ret (.cst (.bl false)))
  .skip)))
  (.ret (.cst (.bl true))))) }
def f_lines_of : Fn :=
  { ar := 1, sl := 1, rd := 0, io := [], body :=
  (.seq (.ite (.or (.not (.isi (.var 0) .tuple)) (.or (.not (.chn .le .le (.cst (.int 1)) (.prm .len (.cons (.var 0) .nil)) (.glb (.int 24)))) (.not (.isi (.idx (.var 0) (.cst (.int 0))) .tuple))))
  (.ret (.cst (.int 0)))
  .skip)
  (.ret (.ife (.chn .le .le (.cst (.int 1)) (.prm .len (.cons (.idx (.var 0) (.cst (.int 0))) .nil)) (.glb (.int 6))) (.prm .len (.cons (.idx (.var 0) (.cst (.int 0))) .nil)) (.cst (.int 0))))) }
def f_is_row : Fn :=
  { ar := 1, sl := 3, rd := 0, io := [], body :=
  (.seq (.asg (.v 1) (.call 3 (.cons (.var 0) .nil)))
  (.ret (.and (.cmp .gt (.var 1) (.cst (.int 0))) (.prm .all (.cons (.comp [2] (.gfor (.v 2) (.iit (.var 0)) (.cst (.bl true)) (.gelt (.call 2 (.cons (.var 2) (.cons (.var 1) .nil)))))) .nil))))) }
def f_look_row : Fn :=
  { ar := 1, sl := 1, rd := 0, io := [], body :=
  (.ite (.not (.call 4 (.cons (.var 0) .nil)))
  (.rai "BadRow" (.cons (.cst (.str "no row")) .nil))
  .skip) }
def f_landings : Fn :=
  { ar := 1, sl := 1, rd := 0, io := [], body :=
  (.seq (.xpr (.call 5 (.cons (.var 0) .nil)))
  (.ret (.call 7 (.cons (.var 0) .nil)))) }
def f_landed : Fn :=
  { ar := 1, sl := 8, rd := 0, io := [], body :=
  (.seq (.asgo 1 2 (.comp [2] (.gfor (.v 2) (.iit (.var 0)) (.cst (.bl true)) (.gelt (.bin .mul (.lst (.cons (.cst (.int 0)) .nil)) (.prm .len (.cons (.idx (.var 0) (.cst (.int 0))) .nil)))))))
  (.seq (.fr (.cons (.v 3) (.cons (.v 2) .nil)) (.ienu (.var 0))
  (.fr (.v 4) (.iit (.var 2))
  (.fr (.cons (.v 5) (.cons (.v 6) .nil)) (.iit (.var 4))
  (.augp 1 (.cons (.bin .mod (.bin .add (.var 3) (.var 5)) (.prm .len (.cons (.var 0) .nil))) .nil) (.var 6) .add (.cst (.int 1))))))
  (.ret (.comp [7] (.gfor (.v 7) (.iit (.var 1)) (.cst (.bl true)) (.gelt (.prm .tuple (.cons (.var 7) .nil)))))))) }
def f_first_clash : Fn :=
  { ar := 1, sl := 1, rd := 0, io := [], body :=
  (.seq (.xpr (.call 5 (.cons (.var 0) .nil)))
  (.ret (.call 9 (.cons (.var 0) .nil)))) }
def f_clash_in : Fn :=
  { ar := 1, sl := 6, rd := 0, io := [], body :=
  (.seq (.asg (.v 1) (.call 7 (.cons (.var 0) .nil)))
  (.seq (.fr (.cons (.v 2) (.cons (.v 3) .nil)) (.ienu (.var 0))
  (.fr (.cons (.v 4) (.cons (.v 5) .nil)) (.ienu (.var 3))
  (.ite (.cmp .ne (.prm .len (.cons (.var 5) .nil)) (.idx (.idx (.var 1) (.var 2)) (.var 4)))
  (.ret (.tup (.cons (.var 2) (.cons (.var 4) .nil))))
  .skip)))
  (.ret (.cst .non)))) }
def f_fits : Fn :=
  { ar := 1, sl := 1, rd := 0, io := [], body :=
  (.ret (.cmp .isn (.call 8 (.cons (.var 0) .nil)) (.cst .non))) }
def f_look_fits : Fn :=
  { ar := 1, sl := 2, rd := 0, io := [], body :=
  (.seq (.xpr (.call 5 (.cons (.var 0) .nil)))
  (.seq (.asg (.v 1) (.call 9 (.cons (.var 0) .nil)))
  (.ite (.cmp .nis (.var 1) (.cst .non))
  (.rai "Clash" (.cons (.idx (.var 1) (.cst (.int 0))) (.cons (.idx (.var 1) (.cst (.int 1))) .nil)))
  .skip))) }
def f_balls : Fn :=
  { ar := 1, sl := 1, rd := 0, io := [], body :=
  (.seq (.xpr (.call 11 (.cons (.var 0) .nil)))
  (.ret (.call 13 (.cons (.var 0) .nil)))) }
def f_ball_count : Fn :=
  { ar := 1, sl := 5, rd := 0, io := [], body :=
  (.ret (.bin .fdiv (.prm .sum (.cons (.comp [1, 2, 3, 4] (.gfor (.v 1) (.iit (.var 0)) (.cst (.bl true)) (.gfor (.v 2) (.iit (.var 1)) (.cst (.bl true)) (.gfor (.cons (.v 3) (.cons (.v 4) .nil)) (.iit (.var 2)) (.cst (.bl true)) (.gelt (.var 3)))))) .nil)) (.prm .len (.cons (.var 0) .nil)))) }
def f_room : Fn :=
  { ar := 1, sl := 3, rd := 0, io := [], body :=
  (.seq (.xpr (.call 5 (.cons (.var 0) .nil)))
  (.ret (.prm .max (.cons (.comp [1, 2] (.gfor (.v 1) (.iit (.var 0)) (.cst (.bl true)) (.gfor (.v 2) (.iit (.var 1)) (.cst (.bl true)) (.gelt (.prm .len (.cons (.var 2) .nil)))))) .nil)))) }
def f_highest : Fn :=
  { ar := 1, sl := 5, rd := 0, io := [], body :=
  (.seq (.xpr (.call 5 (.cons (.var 0) .nil)))
  (.ret (.prm .max (.cons (.bin .add (.lst (.cons (.cst (.int 0)) .nil)) (.comp [1, 2, 3, 4] (.gfor (.v 1) (.iit (.var 0)) (.cst (.bl true)) (.gfor (.v 2) (.iit (.var 1)) (.cst (.bl true)) (.gfor (.cons (.v 3) (.cons (.v 4) .nil)) (.iit (.var 2)) (.cst (.bl true)) (.gelt (.var 3))))))) .nil)))) }
def f_w_pick : Fn :=
  { ar := 2, sl := 2, rd := 0, io := [], body :=
  (.ret (.idx (.var 1) (.draw (.var 0) (.prm .len (.cons (.var 1) .nil))))) }
def f_w_whole : Fn :=
  { ar := 1, sl := 1, rd := 0, io := [], body :=
  (.ret (.and (.isi (.var 0) .int) (.not (.isi (.var 0) .bool)))) }
def f_w_is : Fn :=
  { ar := 2, sl := 2, rd := 0, io := [], body :=
  (.ret (.and (.isi (.var 0) .bool) (.cmp .eq (.var 0) (.var 1)))) }
def f_w_lined : Fn :=
  { ar := 1, sl := 4, rd := 0, io := [], body :=
  (.seq (.asgo 1 1 (.lst .nil))
  (.seq (.fr (.v 2) (.iit (.var 0))
  (.app 1 .nil (.prm .tuple (.cons (.comp [3] (.gfor (.v 3) (.iit (.var 2)) (.cst (.bl true)) (.gelt (.prm .tuple (.cons (.rev (.prm .sorted (.cons (.var 3) .nil))) .nil))))) .nil))))
  (.ret (.prm .tuple (.cons (.var 1) .nil))))) }
def f_w_row : Fn :=
  { ar := 4, sl := 12, rd := 0, io := [], body :=
  (.seq (.asg (.v 4) (.lst .nil))
  (.seq (.fr (.v 5) (.irng (.cons (.var 2) .nil))
  (.fr (.v 6) (.irng (.cons (.var 1) .nil))
  (.asg (.v 4) (.bin .add (.var 4) (.bin .mul (.lst (.cons (.tup (.cons (.var 5) (.cons (.var 6) .nil))) .nil)) (.draw (.var 0) (.bin .add (.var 3) (.cst (.int 1)))))))))
  (.seq (.asgo 7 1 (.prm .list (.cons (.var 4) .nil)))
  (.seq (.asgo 8 3 (.comp [5] (.gfor (.v 5) (.irng (.cons (.var 2) .nil)) (.cst (.bl true)) (.gelt (.comp [6] (.gfor (.v 6) (.irng (.cons (.var 1) .nil)) (.cst (.bl true)) (.gelt (.lst .nil))))))))
  (.seq (.fr (.cons (.v 5) (.cons (.v 6) .nil)) (.iit (.var 4))
  (.seq (.pop (.cons (.v 9) (.cons (.v 10) .nil)) 7 .nil (.cons (.draw (.var 0) (.prm .len (.cons (.var 7) .nil))) .nil))
  (.seq (.asg (.v 11) (.bin .mod (.bin .sub (.var 9) (.var 5)) (.var 2)))
  (.seq (.asg (.v 11) (.ife (.cmp .gt (.var 11) (.cst (.int 0))) (.var 11) (.var 2)))
  (.seq (.ite (.cmp .eq (.draw (.var 0) (.cst (.int 9))) (.cst (.int 0)))
  (.asg (.v 11) (.bin .add (.var 11) (.bin .mul (.bin .fdiv (.bin .sub (.cst (.int 15)) (.var 11)) (.var 2)) (.var 2))))
  .skip)
  (.seq (.whl (.and (.cmp .le (.bin .add (.var 11) (.var 2)) (.cst (.int 9))) (.cmp .eq (.draw (.var 0) (.cst (.int 3))) (.cst (.int 0))))
  (.asg (.v 11) (.bin .add (.var 11) (.var 2))))
  (.app 8 (.cons (.var 5) (.cons (.var 6) .nil)) (.tup (.cons (.var 11) (.cons (.var 10) .nil))))))))))
  (.ret (.call 19 (.cons (.var 8) .nil)))))))) }
def f_w_any_row : Fn :=
  { ar := 1, sl := 1, rd := 0, io := [], body :=
  (.ret (.call 20 (.cons (.var 0) (.cons (.call 16 (.cons (.var 0) (.cons (.lst (.cons (.cst (.int 1)) (.cons (.cst (.int 1)) (.cons (.cst (.int 2)) (.cons (.cst (.int 2)) (.cons (.cst (.int 3)) .nil)))))) .nil))) (.cons (.bin .add (.cst (.int 1)) (.draw (.var 0) (.cst (.int 5)))) (.cons (.call 16 (.cons (.var 0) (.cons (.lst (.cons (.cst (.int 1)) (.cons (.cst (.int 1)) (.cons (.cst (.int 2)) (.cons (.cst (.int 3)) .nil))))) .nil))) .nil)))))) }
def f_w_turned_off : Fn :=
  { ar := 2, sl := 8, rd := 0, io := [], body :=
  (.seq (.asgo 2 3 (.comp [4] (.gfor (.v 4) (.iit (.var 1)) (.cst (.bl true)) (.gelt (.comp [3] (.gfor (.v 3) (.iit (.var 4)) (.cst (.bl true)) (.gelt (.prm .list (.cons (.var 3) .nil)))))))))
  (.seq (.par 5 0 6 0 (.draw (.var 0) (.prm .len (.cons (.var 1) .nil))) (.draw (.var 0) (.prm .len (.cons (.idx (.var 1) (.cst (.int 0))) .nil))))
  (.seq (.asg (.v 7) (.draw (.var 0) (.cst (.int 3))))
  (.seq (.ite (.and (.cmp .eq (.var 7) (.cst (.int 0))) (.cmp .ne (.idx (.idx (.var 2) (.var 5)) (.var 6)) (.lst .nil)))
  (.pop .dr 2 (.cons (.var 5) (.cons (.var 6) .nil)) .nil)
  (.ite (.and (.cmp .eq (.var 7) (.cst (.int 1))) (.cmp .lt (.prm .len (.cons (.idx (.idx (.var 2) (.var 5)) (.var 6)) .nil)) (.cst (.int 4))))
  (.app 2 (.cons (.var 5) (.cons (.var 6) .nil)) (.tup (.cons (.bin .add (.cst (.int 1)) (.draw (.var 0) (.cst (.int 9)))) (.cons (.draw (.var 0) (.prm .len (.cons (.idx (.var 1) (.cst (.int 0))) .nil))) .nil))))
  (.ite (.cmp .ne (.idx (.idx (.var 2) (.var 5)) (.var 6)) (.lst .nil))
  (.setp 2 (.cons (.var 5) (.cons (.var 6) .nil)) (.cst (.int 0)) (.tup (.cons (.bin .add (.cst (.int 1)) (.draw (.var 0) (.cst (.int 9)))) (.cons (.draw (.var 0) (.prm .len (.cons (.idx (.var 1) (.cst (.int 0))) .nil))) .nil))))
  .skip)))
  (.ret (.call 19 (.cons (.var 2) .nil))))))) }
def f_w_landings : Fn :=
  { ar := 1, sl := 8, rd := 0, io := [], body :=
  (.seq (.asgo 1 2 (.comp [2] (.gfor (.v 2) (.irng (.cons (.prm .len (.cons (.var 0) .nil)) .nil)) (.cst (.bl true)) (.gelt (.bin .mul (.lst (.cons (.cst (.int 0)) .nil)) (.prm .len (.cons (.idx (.var 0) (.cst (.int 0))) .nil)))))))
  (.seq (.fr (.v 2) (.irng (.cons (.prm .len (.cons (.var 0) .nil)) .nil))
  (.fr (.v 3) (.iit (.idx (.var 0) (.var 2)))
  (.fr (.cons (.v 4) (.cons (.v 5) .nil)) (.iit (.var 3))
  (.seq (.asg (.v 6) (.bin .mod (.bin .add (.var 2) (.var 4)) (.prm .len (.cons (.var 0) .nil))))
  (.setp 1 (.cons (.var 6) .nil) (.var 5) (.bin .add (.idx (.idx (.var 1) (.var 6)) (.var 5)) (.cst (.int 1))))))))
  (.ret (.comp [7] (.gfor (.v 7) (.iit (.var 1)) (.cst (.bl true)) (.gelt (.prm .tuple (.cons (.var 7) .nil)))))))) }
def f_w_clash : Fn :=
  { ar := 1, sl := 4, rd := 0, io := [], body :=
  (.seq (.asg (.v 1) (.call 23 (.cons (.var 0) .nil)))
  (.seq (.fr (.v 2) (.irng (.cons (.prm .len (.cons (.var 0) .nil)) .nil))
  (.fr (.v 3) (.irng (.cons (.prm .len (.cons (.idx (.var 0) (.cst (.int 0))) .nil)) .nil))
  (.ite (.cmp .ne (.prm .len (.cons (.idx (.idx (.var 0) (.var 2)) (.var 3)) .nil)) (.idx (.idx (.var 1) (.var 2)) (.var 3)))
  (.ret (.tup (.cons (.var 2) (.cons (.var 3) .nil))))
  .skip)))
  (.ret (.cst .non)))) }
def f_w_balls : Fn :=
  { ar := 1, sl := 6, rd := 0, io := [], body :=
  (.seq (.asg (.v 1) (.cst (.int 0)))
  (.seq (.fr (.v 2) (.iit (.var 0))
  (.fr (.v 3) (.iit (.var 2))
  (.asg (.v 1) (.bin .add (.var 1) (.prm .sum (.cons (.comp [4, 5] (.gfor (.cons (.v 4) (.cons (.v 5) .nil)) (.iit (.var 3)) (.cst (.bl true)) (.gelt (.var 4)))) .nil))))))
  (.ret (.bin .fdiv (.var 1) (.prm .len (.cons (.var 0) .nil)))))) }
def f_law : Fn :=
  { ar := 1, sl := 12, rd := 0, io := [], body :=
  (.seq (.asg (.v 1) (.mkt (.var 0)))
  (.seq (.asg (.v 2) (.call 21 (.cons (.var 1) .nil)))
  (.seq (.ite (.or (.cmp .nis (.call 4 (.cons (.var 2) .nil)) (.cst (.bl true))) (.or (.cmp .nis (.call 10 (.cons (.var 2) .nil)) (.cst (.bl true))) (.or (.cmp .nis (.call 8 (.cons (.var 2) .nil)) (.cst .non)) (.cmp .ne (.call 6 (.cons (.var 2) .nil)) (.call 23 (.cons (.var 2) .nil))))))
  (.ret (.cst (.bl false)))
  .skip)
  (.seq (.ite (.or (.cmp .ne (.call 12 (.cons (.var 2) .nil)) (.call 25 (.cons (.var 2) .nil))) (.not (.call 17 (.cons (.call 12 (.cons (.var 2) .nil)) .nil))))
  (.ret (.cst (.bl false)))
  .skip)
  (.seq (.fr (.v 3) (.irng (.cons (.cst (.int 6)) .nil))
  (.seq (.asg (.v 4) (.call 22 (.cons (.var 1) (.cons (.var 2) .nil))))
  (.seq (.asg (.v 5) (.call 24 (.cons (.var 4) .nil)))
  (.seq (.ite (.or (.cmp .ne (.call 8 (.cons (.var 4) .nil)) (.var 5)) (.or (.not (.call 18 (.cons (.call 10 (.cons (.var 4) .nil)) (.cons (.cmp .isn (.var 5) (.cst .non)) .nil)))) (.cmp .ne (.call 6 (.cons (.var 4) .nil)) (.call 23 (.cons (.var 4) .nil)))))
  (.ret (.cst (.bl false)))
  .skip)
  (.seq (.asg (.v 6) (.lst .nil))
  (.seq (.asg (.v 7) (.lst (.cons (.cst (.int 0)) .nil)))
  (.seq (.fr (.v 8) (.iit (.var 4))
  (.seq (.asg (.v 6) (.bin .add (.var 6) (.comp [9] (.gfor (.v 9) (.iit (.var 8)) (.cst (.bl true)) (.gelt (.prm .len (.cons (.var 9) .nil)))))))
  (.fr (.v 9) (.iit (.var 8))
  (.asg (.v 7) (.bin .add (.var 7) (.comp [10, 11] (.gfor (.cons (.v 10) (.cons (.v 11) .nil)) (.iit (.var 9)) (.cst (.bl true)) (.gelt (.var 10)))))))))
  (.seq (.ite (.or (.cmp .ne (.call 14 (.cons (.var 4) .nil)) (.prm .max (.cons (.var 6) .nil))) (.cmp .ne (.call 15 (.cons (.var 4) .nil)) (.prm .max (.cons (.var 7) .nil))))
  (.ret (.cst (.bl false)))
  .skip)
  (.ite (.and (.cmp .isn (.var 5) (.cst .non)) (.cmp .ne (.bin .mul (.call 12 (.cons (.var 4) .nil)) (.prm .len (.cons (.var 4) .nil))) (.prm .sum (.cons (.var 7) .nil))))
  (.ret (.cst (.bl false)))
  .skip)))))))))
  (.ret (.cmp .isn (.call 4 (.cons (.prm .list (.cons (.var 2) .nil)) .nil)) (.cst (.bl false))))))))) }
def tbl : Nat → Option Fn
  | 0 => some f_is_whole
  | 1 => some f_is_throw
  | 2 => some f_is_beat
  | 3 => some f_lines_of
  | 4 => some f_is_row
  | 5 => some f_look_row
  | 6 => some f_landings
  | 7 => some f_landed
  | 8 => some f_first_clash
  | 9 => some f_clash_in
  | 10 => some f_fits
  | 11 => some f_look_fits
  | 12 => some f_balls
  | 13 => some f_ball_count
  | 14 => some f_room
  | 15 => some f_highest
  | 16 => some f_w_pick
  | 17 => some f_w_whole
  | 18 => some f_w_is
  | 19 => some f_w_lined
  | 20 => some f_w_row
  | 21 => some f_w_any_row
  | 22 => some f_w_turned_off
  | 23 => some f_w_landings
  | 24 => some f_w_clash
  | 25 => some f_w_balls
  | 26 => some f_law
  | _ => none
end Hx
namespace Hx
open PySem (Str)
section
variable (sem : Sem) (rd : Nat → Nat)
theorem ev_var {i k : Nat} {s : St} : ev sem (.var i) k s = (match s.env[i]? with
    | some (.fz d) => .ok d s
    | some (.ow n d) => if n ≤ k then .ok d s else .ok d { s with env := s.env.set i (.fz d) }
    | _ => .stuck) := Eq.trans rfl rfl
theorem ev_cst {d : D} {k : Nat} {s : St} : ev sem (.cst d) k s = .ok d s := Eq.trans rfl rfl
theorem ev_glb {d : D} {k : Nat} {s : St} : ev sem (.glb d) k s = .ok d s := Eq.trans rfl rfl
theorem ev_tup {as : E} {k : Nat} {s : St} : ev sem (.tup as) k s = (evA sem as s).bind fun ds s => .ok (.tup ds) s := Eq.trans rfl rfl
theorem ev_lst {as : E} {k : Nat} {s : St} : ev sem (.lst as) k s = (evA sem as s).bind fun ds s => .ok (.lst ds) s := Eq.trans rfl rfl
theorem ev_bin {o : Bop} {a b : E} {k : Nat} {s : St} : ev sem (.bin o a b) k s = (ev sem a 1 s).bind fun x s => (ev sem b 1 s).bind fun y s => opt (binD o x y) s := Eq.trans rfl rfl
theorem ev_neg {a : E} {k : Nat} {s : St} : ev sem (.neg a) k s = (ev sem a 99 s).bind fun x s => (match x with
    | .int i => .ok (.int (-i)) s
    | _ => .stuck) := Eq.trans rfl rfl
theorem ev_not {a : E} {k : Nat} {s : St} : ev sem (.not a) k s = (ev sem a 99 s).bind fun x s => (match x with
    | .bl b => .ok (.bl (!b)) s
    | _ => .stuck) := Eq.trans rfl rfl
theorem ev_and {a b : E} {k : Nat} {s : St} : ev sem (.and a b) k s = (ev sem a 99 s).bind fun x s => (match x with
    | .bl c => if c then ev sem b k s else .ok (.bl false) s
    | _ => .stuck) := Eq.trans rfl rfl
theorem ev_or {a b : E} {k : Nat} {s : St} : ev sem (.or a b) k s = (ev sem a 99 s).bind fun x s => (match x with
    | .bl c => if c then .ok (.bl true) s else ev sem b k s
    | _ => .stuck) := Eq.trans rfl rfl
theorem ev_ife {c a b : E} {k : Nat} {s : St} : ev sem (.ife c a b) k s = (ev sem c 99 s).bind fun x s => (match x with
    | .bl t => if t then ev sem a k s else ev sem b k s
    | _ => .stuck) := Eq.trans rfl rfl
theorem ev_cmp {o : Cop} {a b : E} {k : Nat} {s : St} : ev sem (.cmp o a b) k s = (ev sem a 99 s).bind fun x s => (ev sem b 99 s).bind fun y s => opt ((cmpD o x y).map .bl) s := Eq.trans rfl rfl
theorem ev_chn {o p : Cop} {a b c : E} {k : Nat} {s : St} : ev sem (.chn o p a b c) k s = (ev sem a 99 s).bind fun x s => (ev sem b 99 s).bind fun y s => (opt (cmpD o x y) s).bind fun t s =>
    if t then (ev sem c 99 s).bind fun z s => opt ((cmpD p y z).map .bl) s else .ok (.bl false) s := Eq.trans rfl rfl
theorem ev_call {f : Nat} {as : E} {k : Nat} {s : St} : ev sem (.call f as) k s = (evA sem as s).bind fun ds s => ofRW (sem f ds s.w) s := Eq.trans rfl rfl
theorem ev_prm {p : Prim} {as : E} {k : Nat} {s : St} : ev sem (.prm p as) k s = (evP sem as p.look s).bind fun ds s => opt (primD p ds) s := Eq.trans rfl rfl
theorem ev_idx {a i : E} {k : Nat} {s : St} : ev sem (.idx a i) k s = (ev sem a (k + 1) s).bind fun x s => (ev sem i 99 s).bind fun j s => opt (x.getI j) s := Eq.trans rfl rfl
theorem ev_slc {a lo hi : E} {k : Nat} {s : St} : ev sem (.slc a lo hi) k s = (ev sem a 1 s).bind fun x s => (evO sem lo s).bind fun l s => (evO sem hi s).bind fun h s => opt (slcD x l h) s := Eq.trans rfl rfl
theorem ev_rev {a : E} {k : Nat} {s : St} : ev sem (.rev a) k s = (ev sem a 1 s).bind fun x s => opt (revD x) s := Eq.trans rfl rfl
theorem ev_isi {a : E} {t : Ty} {k : Nat} {s : St} : ev sem (.isi a t) k s = (ev sem a 99 s).bind fun x s => opt ((isiD t x).map .bl) s := Eq.trans rfl rfl
theorem ev_mkt {a : E} {k : Nat} {s : St} : ev sem (.mkt a) k s = (ev sem a 99 s).bind fun x s => (match x, s.w with
    | .scr ns, none => if ns.length ≤ 63 then .ok .town { s with w := some (if ns = [] then [0] else ns, 0) } else .stuck
    | _, _ => .stuck) := Eq.trans rfl rfl
theorem ev_draw {t n : E} {k : Nat} {s : St} : ev sem (.draw t n) k s = (ev sem t 99 s).bind fun x s => (ev sem n 99 s).bind fun y s => (match x, y with
    | .town, .int i => (opt (drawW s.w i) s).bind fun r s => .ok (.int r.1) { s with w := r.2 }
    | _, _ => .stuck) := Eq.trans rfl rfl
theorem evA_nil {s : St} : evA sem .nil s = .ok [] s := Eq.trans rfl rfl
theorem evA_cons {a r : E} {s : St} : evA sem (.cons a r) s = (ev sem a 0 s).bind fun d s => (evA sem r s).bind fun ds s => .ok (d :: ds) s := Eq.trans rfl rfl
theorem evP_nil {ks : List Nat} {s : St} : evP sem .nil ks s = .ok [] s := Eq.trans rfl rfl
theorem evP_cons {a r : E} {ks : List Nat} {s : St} : evP sem (.cons a r) ks s = (ev sem a (ks.headD 0) s).bind fun d s => (evP sem r ks.tail s).bind fun ds s => .ok (d :: ds) s := Eq.trans rfl rfl
theorem evO_nil {s : St} : evO sem .nil s = .ok none s := Eq.trans rfl rfl
theorem evO_cons {a r : E} {s : St} : evO sem (.cons a r) s = (ev sem a 99 s).bind fun x s => (match x with
    | .int i => .ok (some i) s
    | _ => .stuck) := Eq.trans rfl rfl
theorem evI_rng {as : E} {s : St} : evI sem (.irng as) s = (evA sem as s).bind fun ds s => opt (rangeD ds) s := Eq.trans rfl rfl
theorem evI_enu {a : E} {s : St} : evI sem (.ienu a) s = (ev sem a 0 s).bind fun x s => opt ((seqD x).map (enumL 0)) s := Eq.trans rfl rfl
theorem evI_zip {a b : E} {s : St} : evI sem (.izip a b) s = (ev sem a 0 s).bind fun x s => (ev sem b 0 s).bind fun y s => opt ((seqD x).bind fun xs => (seqD y).map fun ys => zipL xs ys) s := Eq.trans rfl rfl
theorem evI_it {a : E} {s : St} : evI sem (.iit a) s = (ev sem a 0 s).bind fun x s => opt (iterD x) s := Eq.trans rfl rfl
theorem evG_elt {a : E} {acc : List D} {s : St} : evG sem (.gelt a) acc s = (ev sem a 0 s).bind fun d s => if acc.length < line then .ok (acc ++ [d]) s else .stuck := Eq.trans rfl rfl
theorem evN_nil' {i : Nat} {acc : List D} {s : St} : evN sem i .nil acc s = if okN i acc s then .ok acc s else .stuck := Eq.trans rfl rfl
theorem evN_cons' {i : Nat} {a r : E} {acc : List D} {s : St} : evN sem i (.cons a r) acc s = if okN i acc s then (ev sem a 0 s).bind fun d s => evN sem i r (acc ++ [d]) s else .stuck := Eq.trans rfl rfl
theorem ex_skip {s : St} : ex sem rd .skip s = .ok .nx s := Eq.trans rfl rfl
theorem ex_asg {t : Tg} {e : E} {s : St} : ex sem rd (.asg t e) s = (ev sem e 0 s).bind fun d s => (opt (stTg t d s.env) s).bind fun env s => .ok .nx { s with env := env } := Eq.trans rfl rfl
theorem ex_asgo {i n : Nat} {e : E} {s : St} : ex sem rd (.asgo i n e) s = (ev sem e 0 s).bind fun d s => if n ≤ dep rd e ∧ 0 < n then .ok .nx { s with env := s.env.set i (.ow n d) } else .stuck := Eq.trans rfl rfl
theorem ex_par {i n j m : Nat} {a b : E} {s : St} : ex sem rd (.par i n j m a b) s = (evA sem (.cons a (.cons b .nil)) s).bind fun ds s => (match ds with
    | [x, y] => if n ≤ dep rd a ∧ n ≤ dep rd b ∧ n = m then .ok .nx { s with env := (s.env.set i (if n = 0 then .fz x else .ow n x)).set j (if n = 0 then .fz y else .ow n y) } else .stuck
    | _ => .stuck) := Eq.trans rfl rfl
theorem ex_setp {i : Nat} {p j e : E} {s : St} : ex sem rd (.setp i p j e) s = (ev sem e 0 s).bind fun x s => (evN sem i p [] s).bind fun p' s => (ev sem j 0 s).bind fun k s =>
    (chg i p' (dep rd e) (fun d => d.setI k x) s).bind fun _ s => .ok .nx s := Eq.trans rfl rfl
theorem ex_augp {i : Nat} {p j : E} {o : Bop} {e : E} {s : St} : ex sem rd (.augp i p j o e) s = (evN sem i p [] s).bind fun p' s => if okL i p' s then (ev sem j 0 s).bind fun k s =>
    (opt (atN i p' k s) s).bind fun y s => (ev sem e 1 s).bind fun x s => (opt (ipD o y x) s).bind fun z s =>
    (chg i p' 99 (fun d => d.setI k z) s).bind fun _ s => .ok .nx s else .stuck := Eq.trans rfl rfl
theorem ex_aug {i : Nat} {o : Bop} {e : E} {s : St} : ex sem rd (.aug i o e) s = (match s.env[i]? with
    | some (.fz d) => (ev sem e 1 s).bind fun x s => (opt (ipD o d x) s).bind fun z s => .ok .nx { s with env := s.env.set i (.fz z) }
    | _ => .stuck) := Eq.trans rfl rfl
theorem ex_app {i : Nat} {p e : E} {s : St} : ex sem rd (.app i p e) s = (evN sem i p [] s).bind fun p' s => if okL i p' s then (ev sem e 0 s).bind fun x s =>
    (chg i p' (dep rd e) (appD x) s).bind fun _ s => .ok .nx s else .stuck := Eq.trans rfl rfl
theorem ex_pop {t : Tg} {i : Nat} {p j : E} {s : St} : ex sem rd (.pop t i p j) s = (evN sem i p [] s).bind fun p' s => if okL i p' s then (evA sem j s).bind fun js s =>
    (opt (Sl.own? s.env[i]?) s).bind fun nd s => if p'.length < nd.1 then
      (opt ((getP p' nd.2).bind (popD js.head?)) s).bind fun xr s =>
      (opt (updP (fun d => (popD js.head? d).map (·.2)) p' nd.2) s).bind fun d s => (opt (stTg t xr.1 (s.env.set i (.ow nd.1 d))) s).bind fun env s => .ok .nx { s with env := env } else .stuck else .stuck := Eq.trans rfl rfl
theorem ex_xpr {e : E} {s : St} : ex sem rd (.xpr e) s = (ev sem e 0 s).bind fun _ s => .ok .nx s := Eq.trans rfl rfl
theorem ex_ite {c : E} {a b : S} {s : St} : ex sem rd (.ite c a b) s = (ev sem c 99 s).bind fun x s => (match x with
    | .bl t => if t then ex sem rd a s else ex sem rd b s
    | _ => .stuck) := Eq.trans rfl rfl
theorem ex_ret {e : E} {s : St} : ex sem rd (.ret e) s = (ev sem e 0 s).bind fun d s => .ok (.rt d) s := Eq.trans rfl rfl
theorem ex_retn {s : St} : ex sem rd .retn s = .ok (.rt .non) s := Eq.trans rfl rfl
theorem ex_rai {c : Str} {as : E} {s : St} : ex sem rd (.rai c as) s = (evA sem as s).bind fun ds s => .exc c ds s := Eq.trans rfl rfl
end
section
variable {α β : Type}
theorem bind_ok {a : α} {s : St} {f : α → St → Res β} : (Res.ok a s).bind f = f a s := Eq.trans rfl rfl
theorem bind_exc {c : Str} {fs : List D} {s : St} {f : α → St → Res β} : (Res.exc c fs s : Res α).bind f = .exc c fs s := Eq.trans rfl rfl
theorem bind_stuck {f : α → St → Res β} : (Res.stuck : Res α).bind f = .stuck := Eq.trans rfl rfl
theorem bind_ite {p : Prop} [Decidable p] {a b : Res α} {f : α → St → Res β} : (if p then a else b).bind f = if p then a.bind f else b.bind f := by
  split <;> rfl
theorem bind_bind {γ : Type} {r : Res α} {f : α → St → Res β} {g : β → St → Res γ} : (r.bind f).bind g = r.bind fun a s => (f a s).bind g := by
  cases r <;> rfl
theorem opt_some {a : α} {s : St} : opt (some a) s = .ok a s := Eq.trans rfl rfl
theorem ofRW_ok {d : D} {o : List D} {w : Wd} {s : St} : ofRW (.ok d o w) s = .ok d { s with w := w } := Eq.trans rfl rfl
theorem ofRW_exc {c : Str} {fs : List D} {w : Wd} {s : St} : ofRW (.exc c fs w) s = .exc c fs { s with w := w } := Eq.trans rfl rfl
end
def flowD : Flow → D
  | .rt d => d
  | .nx => .non
/-- the slots at the start -/
def slots0 (fn : Fn) (ds : List D) : List Sl := (ds.zipIdx.map fun (d, i) => match fn.io.lookup i with
      | some n => .ow n d
      | none => .fz d) ++ List.replicate (fn.sl - fn.ar) .un
theorem run_of {rd : Nat → Nat} {sem : Sem} {fn : Fn} {ds : List D} {w : Wd} {P : D → Wd → Prop} (hl : ds.length = fn.ar) (h : WP (ex sem rd fn.body ⟨slots0 fn ds, w⟩) (fun fl s => P (flowD fl) s.w)) :
    ∃ v w', run rd sem fn ds w = .ok v [] w' ∧ P v w' := by
  unfold run
  rw [if_pos hl]
  unfold slots0 at h
  cases e : ex sem rd fn.body ⟨(ds.zipIdx.map fun (d, i) => match fn.io.lookup i with
      | some n => .ow n d
      | none => .fz d) ++ List.replicate (fn.sl - fn.ar) .un, w⟩ with
  | ok f s => rw [e] at h; cases f <;> exact ⟨_, _, rfl, h⟩
  | exc c fs s => rw [e] at h; exact h.elim
  | stuck => rw [e] at h; exact h.elim
theorem run_eq {rd : Nat → Nat} {sem : Sem} {fn : Fn} {ds : List D} {w w' : Wd} {v : D} (hl : ds.length = fn.ar) (h : WP (ex sem rd fn.body ⟨slots0 fn ds, w⟩) (fun fl s => flowD fl = v ∧ s.w = w')) : run rd sem fn ds w = .ok v [] w' := by
  obtain ⟨v1, w1, e, rfl, rfl⟩ := run_of (P := fun a b => a = v ∧ b = w') hl h
  exact e
theorem run_exc {rd : Nat → Nat} {sem : Sem} {fn : Fn} {ds : List D} {w w' : Wd} {c : Str} {fs : List D} (hl : ds.length = fn.ar) (h : WP (ex sem rd fn.body ⟨slots0 fn ds, w⟩) (fun _ _ => False) (fun c' fs' s => c' = c ∧ fs' = fs ∧ s.w = w')) : run rd sem fn ds w = .exc c fs w' := by
  unfold run
  rw [if_pos hl]
  unfold slots0 at h
  cases e : ex sem rd fn.body ⟨(ds.zipIdx.map fun (d, i) => match fn.io.lookup i with
      | some n => .ow n d
      | none => .fz d) ++ List.replicate (fn.sl - fn.ar) .un, w⟩ with
  | ok f s => rw [e] at h; exact h.elim
  | exc c fs s => rw [e] at h; obtain ⟨rfl, rfl, rfl⟩ := h; rfl
  | stuck => rw [e] at h; exact h.elim
theorem sem_run {tbl : Nat → Option Fn} {k i : Nat} {fn : Fn} {ds : List D} {w : Wd} (ht : tbl i = some fn) : semT tbl (k + 1) i ds w = run (rdOf tbl) (semT tbl k) fn ds w := by
  show (match tbl i with | some fn => run (rdOf tbl) (semT tbl k) fn ds w | none => RW.stuck) = _
  rw [ht]
theorem sem_eq {tbl : Nat → Option Fn} {k i : Nat} {fn : Fn} {ds : List D} {w w' : Wd} {v : D} (ht : tbl i = some fn) (hl : ds.length = fn.ar) (h : WP (ex (semT tbl k) (rdOf tbl) fn.body ⟨slots0 fn ds, w⟩) (fun fl s => flowD fl = v ∧ s.w = w')) :
    semT tbl (k + 1) i ds w = .ok v [] w' := (sem_run ht).trans (run_eq hl h)
theorem sem_of {tbl : Nat → Option Fn} {k i : Nat} {fn : Fn} {ds : List D} {w : Wd} {P : D → Wd → Prop} (ht : tbl i = some fn) (hl : ds.length = fn.ar) (h : WP (ex (semT tbl k) (rdOf tbl) fn.body ⟨slots0 fn ds, w⟩) (fun fl s => P (flowD fl) s.w)) :
    ∃ v w', semT tbl (k + 1) i ds w = .ok v [] w' ∧ P v w' := by
  rw [sem_run ht]; exact run_of hl h
theorem sem_exc {tbl : Nat → Option Fn} {k i : Nat} {fn : Fn} {ds : List D} {w w' : Wd} {c : Str} {fs : List D} (ht : tbl i = some fn) (hl : ds.length = fn.ar) (h : WP (ex (semT tbl k) (rdOf tbl) fn.body ⟨slots0 fn ds, w⟩) (fun _ _ => False) (fun c' fs' s => c' = c ∧ fs' = fs ∧ s.w = w')) :
    semT tbl (k + 1) i ds w = .exc c fs w' := (sem_run ht).trans (run_exc hl h)
def GW (w : Wd) : Prop := ∃ ns c, w = some (ns, c) ∧ ns ≠ [] ∧ 0 ≤ c
theorem draw_ok {w : Wd} {n : Int} (g : GW w) (h0 : 0 < n) (h1 : n < 1073741824) : ∃ r w', drawW w n = some (r, w') ∧ 0 ≤ r ∧ r < n ∧ GW w' := by
  obtain ⟨ns, c, rfl, hn, hc⟩ := g
  have hl : 0 < (ns.length : Int) := by
    have : 0 < ns.length := List.length_pos_iff.mpr hn
    omega
  have hj : ((c + 1) % (ns.length : Int)).toNat < ns.length := by
    have h1 := Int.emod_nonneg (c + 1) (by omega : (ns.length : Int) ≠ 0)
    have h2 := Int.emod_lt_of_pos (c + 1) hl
    omega
  unfold drawW
  simp only
  rw [if_pos ⟨h0, h1⟩, List.getElem?_eq_getElem hj]
  simp only
  split
  · exact ⟨_, _, rfl, Int.emod_nonneg _ (by omega), Int.emod_lt_of_pos _ h0, _, _, rfl, (fun e => hn (by simpa using congrArg List.length e)), by omega⟩
  · exact ⟨_, _, rfl, Int.emod_nonneg _ (by omega), Int.emod_lt_of_pos _ h0, _, _, rfl, hn, by omega⟩
theorem plains_all : ∀ (xs : List D), D.plain.plains xs = xs.all D.plain
  | [] => rfl
  | x :: xs => by show (x.plain && D.plain.plains xs) = _; rw [plains_all xs]; rfl
theorem deps_le {n : Nat} : ∀ (xs : List D), (∀ x ∈ xs, x.depth ≤ n) → D.depth.deps xs ≤ n
  | [], _ => Nat.zero_le _
  | x :: xs, h => by
    show max x.depth (D.depth.deps xs) ≤ n
    have h1 := h x (by simp)
    have h2 := deps_le xs fun y hy => h y (by simp [hy])
    omega
mutual
theorem eqvY_refl : ∀ (d : D), d.plain = true → d.eqv d = true
  | .non, _ => rfl
  | .bl b, _ => by simp [D.eqv]
  | .int i, _ => by simp [D.eqv]
  | .str x, _ => by simp [D.eqv]
  | .tup xs, h => eqvsY_refl xs h
  | .lst xs, h => eqvsY_refl xs h
theorem eqvsY_refl : ∀ (xs : List D), D.plain.plains xs = true → D.eqv.eqvs xs xs = true
  | [], _ => rfl
  | x :: xs, h => by
    have h : (x.plain && D.plain.plains xs) = true := h
    rw [Bool.and_eq_true] at h
    show (x.eqv x && D.eqv.eqvs xs xs) = true
    rw [eqvY_refl x h.1, eqvsY_refl xs h.2]; rfl
end
/-- plain, and no deeper than n -/
structure Pl (n : Nat) (d : D) : Prop where
  p : d.plain = true
  d : d.depth ≤ n
theorem Pl.ok {n : Nat} {d : D} (h : Pl n d) (hn : n ≤ 60 := by decide) : okEq d = true := by
  unfold okEq; rw [h.p, Bool.true_and]; exact decide_eq_true (Nat.le_trans h.d hn)
theorem Pl.int {n : Nat} {i : Int} : Pl n (.int i) := ⟨rfl, Nat.zero_le _⟩
theorem Pl.bl {n : Nat} {i : Bool} : Pl n (.bl i) := ⟨rfl, Nat.zero_le _⟩
theorem Pl.non {n : Nat} : Pl n .non := ⟨rfl, Nat.zero_le _⟩
theorem Pl.tup {n : Nat} {xs : List D} (h : ∀ x ∈ xs, Pl n x) : Pl (n + 1) (.tup xs) := by
  refine ⟨?_, Nat.succ_le_succ (deps_le xs fun x hx => (h x hx).d)⟩
  show D.plain.plains xs = true
  rw [plains_all, List.all_eq_true]
  exact fun x hx => (h x hx).p
theorem Pl.lst {n : Nat} {xs : List D} (h : ∀ x ∈ xs, Pl n x) : Pl (n + 1) (.lst xs) := by
  refine ⟨?_, Nat.succ_le_succ (deps_le xs fun x hx => (h x hx).d)⟩
  show D.plain.plains xs = true
  rw [plains_all, List.all_eq_true]
  exact fun x hx => (h x hx).p
theorem cmp_ne_self {n : Nat} {d : D} (h : Pl n d) (hn : n ≤ 60) : cmpD .ne d d = some false := by
  unfold cmpD
  simp only [h.ok hn, eqvY_refl d h.p, Bool.and_self, if_true, Bool.not_true]
theorem cmp_eq_self {n : Nat} {d : D} (h : Pl n d) (hn : n ≤ 60) : cmpD .eq d d = some true := by
  unfold cmpD
  simp only [h.ok hn, eqvY_refl d h.p, Bool.and_self, if_true]
theorem cmp_le {a b : Int} : cmpD .le (.int a) (.int b) = some (decide (a ≤ b)) := by
  simp [cmpD, ordOk, okEq, D.plain, D.depth, D.alike, isNon, D.lt, ← decide_not, Int.not_lt]
theorem cmp_ge {a b : Int} : cmpD .ge (.int a) (.int b) = some (decide (b ≤ a)) := by
  simp [cmpD, ordOk, okEq, D.plain, D.depth, D.alike, isNon, D.lt, ← decide_not, Int.not_lt]
theorem cmp_lt {a b : Int} : cmpD .lt (.int a) (.int b) = some (decide (a < b)) := by
  simp [cmpD, ordOk, okEq, D.plain, D.depth, D.alike, isNon, D.lt]
theorem cmp_gt {a b : Int} : cmpD .gt (.int a) (.int b) = some (decide (b < a)) := by
  simp [cmpD, ordOk, okEq, D.plain, D.depth, D.alike, isNon, D.lt]
theorem cmp_eq {a b : Int} : cmpD .eq (.int a) (.int b) = some (decide (a = b)) := by
  simp [cmpD, okEq, D.plain, D.depth, D.eqv, BEq.beq]
theorem cmp_ne {a b : Int} : cmpD .ne (.int a) (.int b) = some (!decide (a = b)) := by
  simp [cmpD, okEq, D.plain, D.depth, D.eqv, BEq.beq]
theorem cmp_eqb {a b : Bool} : cmpD .eq (.bl a) (.bl b) = some (a == b) := by
  simp [cmpD, okEq, D.plain, D.depth, D.eqv]
theorem cmp_isb {a b : Bool} : cmpD .isn (.bl a) (.bl b) = some (a == b) := Eq.trans rfl rfl
theorem cmp_nisb {a b : Bool} : cmpD .nis (.bl a) (.bl b) = some (!(a == b)) := Eq.trans rfl rfl
theorem cmp_isn {a : D} : cmpD .isn a .non = some (isNon a) := by cases a <;> rfl
theorem cmp_nis {a : D} : cmpD .nis a .non = some (!isNon a) := by cases a <;> rfl
theorem enumL_len : ∀ (n : Nat) (xs : List D), (enumL n xs).length = xs.length
  | _, [] => rfl
  | n, x :: xs => by show (enumL (n + 1) xs).length + 1 = _; rw [enumL_len (n + 1) xs]; rfl
theorem enumL_get : ∀ (n : Nat) (xs : List D) (j : Nat) (h : j < (enumL n xs).length), (enumL n xs)[j] = .tup [.int (n + j : Nat), xs[j]'(by rw [enumL_len] at h; exact h)]
  | _, [], _, h => absurd h (Nat.not_lt_zero _)
  | n, x :: xs, 0, h => rfl
  | n, x :: xs, j + 1, h => by
    show (enumL (n + 1) xs)[j]'_ = _
    rw [enumL_get (n + 1) xs j (by simpa [enumL] using h)]
    have : n + 1 + j = n + (j + 1) := by omega
    rw [this]; rfl
theorem getI_tup {xs : List D} {i : Int} {j : Nat} (h : i = (j : Int)) (hj : j < xs.length) : D.getI (.tup xs) (.int i) = some xs[j] := by
  subst h
  simp [D.getI, ixP, hj]
theorem getI_lst {xs : List D} {i : Int} {j : Nat} (h : i = (j : Int)) (hj : j < xs.length) : D.getI (.lst xs) (.int i) = some xs[j] := by
  subst h
  simp [D.getI, ixP, hj]
theorem setY_lst {xs : List D} {i : Int} {j : Nat} {v : D} (h : i = (j : Int)) (hj : j < xs.length) : D.setI (.lst xs) (.int i) v = some (.lst (xs.set j v)) := by
  subst h
  simp [D.setI, ixP, hj]
theorem small_of {i : Int} (h0 : -1000000 < i) (h1 : i < 1000000) : small i = true := by
  unfold small; exact decide_eq_true ⟨by omega, by omega⟩
theorem mul_int {a b : Int} (h : small a = true ∨ small b = true) : binD .mul (.int a) (.int b) = some (.int (a * b)) := by
  show (if (small a || small b) = true then _ else _) = _; rw [if_pos (by rw [Bool.or_eq_true]; exact h)]
theorem rep_lst {xs : List D} {j : Int} (h0 : -(2 ^ 62) < j) (h1 : j < 2 ^ 62) (h2 : xs.length * j.toNat ≤ line) : binD .mul (.lst xs) (.int j) = some (.lst (repL xs j.toNat)) := by
  show (if (decide (j < 2 ^ 62) && decide (-(2 ^ 62) < j) && decide (xs.length * j.toNat ≤ line)) = true then _ else _) = _
  rw [if_pos (by simp only [Bool.and_eq_true, decide_eq_true_eq]; exact ⟨⟨h1, h0⟩, h2⟩)]
theorem repL_one {x : D} {n : Nat} : repL [x] n = List.replicate n x := by
  unfold repL
  induction n with
  | zero => rfl
  | succ n ih => rw [List.replicate_succ, List.flatten_cons, ih]; rfl
theorem cat_lst {xs ys : List D} (h : xs.length + ys.length ≤ line) : binD .add (.lst xs) (.lst ys) = some (.lst (xs ++ ys)) := by
  show (if xs.length + ys.length ≤ line then _ else _) = _; rw [if_pos h]
theorem mod_int {a b : Int} (h : 0 < b) : binD .mod (.int a) (.int b) = some (.int (a % b)) := by
  show (if 0 < b then _ else _) = _; rw [if_pos h]
theorem fdiv_int {a b : Int} (h : 0 < b) (h1 : b < 1073741824) : binD .fdiv (.int a) (.int b) = some (.int (a / b)) := by
  show (if 0 < b ∧ b < 1073741824 then _ else _) = _; rw [if_pos ⟨h, h1⟩]
theorem add_int {a b : Int} : binD .add (.int a) (.int b) = some (.int (a + b)) := Eq.trans rfl rfl
theorem sub_int {a b : Int} : binD .sub (.int a) (.int b) = some (.int (a - b)) := Eq.trans rfl rfl
theorem len_tup {xs : List D} : primD .len [.tup xs] = some (.int xs.length) := Eq.trans rfl rfl
theorem len_lst {xs : List D} : primD .len [.lst xs] = some (.int xs.length) := Eq.trans rfl rfl
theorem tuple_lst {xs : List D} : primD .tuple [.lst xs] = some (.tup xs) := Eq.trans rfl rfl
theorem tuple_tup {xs : List D} : primD .tuple [.tup xs] = some (.tup xs) := Eq.trans rfl rfl
theorem list_lst {xs : List D} : primD .list [.lst xs] = some (.lst xs) := Eq.trans rfl rfl
theorem list_tup {xs : List D} : primD .list [.tup xs] = some (.lst xs) := Eq.trans rfl rfl
theorem intsD_map : ∀ (ns : List Int), intsD (ns.map D.int) = some ns
  | [] => rfl
  | n :: ns => by show (intsD (ns.map D.int)).map (n :: ·) = _; rw [intsD_map ns]; rfl
theorem bools_map : ∀ (ns : List Bool), bools (ns.map D.bl) = some ns
  | [] => rfl
  | n :: ns => by show (bools (ns.map D.bl)).map (n :: ·) = _; rw [bools_map ns]; rfl
theorem sum_ints {ns : List Int} : primD .sum [.lst (ns.map D.int)] = some (.int ns.sum) := by
  show (intsD _).map _ = _; rw [intsD_map]; rfl
theorem all_bls {bs : List Bool} : primD .all [.lst (bs.map D.bl)] = some (.bl (bs.all id)) := by
  show (bools _).map _ = _; rw [bools_map]; rfl
theorem any_bls {bs : List Bool} : primD .any [.lst (bs.map D.bl)] = some (.bl (bs.any id)) := by
  show (bools _).map _ = _; rw [bools_map]; rfl
theorem alike_ints (ns : List Int) : allAlike (ns.map D.int) = true := by
  unfold allAlike
  rw [List.all_eq_true]
  intro a ha
  obtain ⟨n, _, rfl⟩ := List.mem_map.mp ha
  rw [Bool.and_eq_true, List.all_eq_true]
  refine ⟨Pl.int.ok (n := 0), fun b hb => ?_⟩
  obtain ⟨m, _, rfl⟩ := List.mem_map.mp hb
  rfl
def maxI : Int → List Int → Int
  | m, [] => m
  | m, x :: xs => maxI (if m < x then x else m) xs
theorem greatD_ints : ∀ (m : Int) (ns : List Int), greatD (.int m) (ns.map D.int) = .int (maxI m ns)
  | m, [] => rfl
  | m, n :: ns => by
    show greatD (if (decide (m < n)) = true then .int n else .int m) (ns.map D.int) = .int (maxI (if m < n then n else m) ns)
    rw [← greatD_ints]
    by_cases h : m < n <;> simp [h]
theorem max_ints {n : Int} {ns : List Int} : primD .max [.lst ((n :: ns).map D.int)] = some (.int (maxI n ns)) := by
  show (if (allAlike ((n :: ns).map D.int) && ((n :: ns).map D.int).all (fun d => !isNon d)) = true then _ else _) = _
  rw [alike_ints, Bool.true_and, if_pos (by rw [List.all_eq_true]; intro a ha; obtain ⟨m, _, rfl⟩ := List.mem_map.mp ha; rfl)]
  show some (greatD (.int n) (ns.map D.int)) = _
  rw [greatD_ints]
theorem rng1 {n : Int} (h0 : 0 ≤ n) (h1 : n < 2 ^ 60) : rangeD [.int n] = some ((List.range n.toNat).map fun (j : Nat) => .int (j : Int)) := by
  show rangeL 0 n 1 = _
  unfold rangeL
  rw [if_pos (by simp only [Bool.and_eq_true, decide_eq_true_eq]; omega), if_pos rfl]
  simp
theorem rng2 {m n : Int} (h0 : 0 ≤ m ∧ m < 2 ^ 60) (h1 : 0 ≤ n ∧ n < 2 ^ 60) : rangeD [.int m, .int n] = some ((List.range (n - m).toNat).map fun (j : Nat) => .int (m + (j : Int))) := by
  show rangeL m n 1 = _
  unfold rangeL
  rw [if_pos (by simp only [Bool.and_eq_true, decide_eq_true_eq]; omega), if_pos rfl]
theorem is_int_int {x : Int} : isiD .int (.int x) = some true := Eq.trans rfl rfl
theorem is_int_bl {x : Bool} : isiD .int (.bl x) = some true := Eq.trans rfl rfl
theorem is_int_str {x : Str} : isiD .int (.str x) = some false := Eq.trans rfl rfl
theorem is_int_tup {x : List D} : isiD .int (.tup x) = some false := Eq.trans rfl rfl
theorem is_int_lst {x : List D} : isiD .int (.lst x) = some false := Eq.trans rfl rfl
theorem is_int_non  : isiD .int (.non) = some false := Eq.trans rfl rfl
theorem is_bool_int {x : Int} : isiD .bool (.int x) = some false := Eq.trans rfl rfl
theorem is_bool_bl {x : Bool} : isiD .bool (.bl x) = some true := Eq.trans rfl rfl
theorem is_bool_str {x : Str} : isiD .bool (.str x) = some false := Eq.trans rfl rfl
theorem is_bool_tup {x : List D} : isiD .bool (.tup x) = some false := Eq.trans rfl rfl
theorem is_bool_lst {x : List D} : isiD .bool (.lst x) = some false := Eq.trans rfl rfl
theorem is_bool_non  : isiD .bool (.non) = some false := Eq.trans rfl rfl
theorem is_tuple_int {x : Int} : isiD .tuple (.int x) = some false := Eq.trans rfl rfl
theorem is_tuple_bl {x : Bool} : isiD .tuple (.bl x) = some false := Eq.trans rfl rfl
theorem is_tuple_str {x : Str} : isiD .tuple (.str x) = some false := Eq.trans rfl rfl
theorem is_tuple_tup {x : List D} : isiD .tuple (.tup x) = some true := Eq.trans rfl rfl
theorem is_tuple_lst {x : List D} : isiD .tuple (.lst x) = some false := Eq.trans rfl rfl
theorem is_tuple_non  : isiD .tuple (.non) = some false := Eq.trans rfl rfl
theorem is_list_int {x : Int} : isiD .list (.int x) = some false := Eq.trans rfl rfl
theorem is_list_bl {x : Bool} : isiD .list (.bl x) = some false := Eq.trans rfl rfl
theorem is_list_str {x : Str} : isiD .list (.str x) = some false := Eq.trans rfl rfl
theorem is_list_tup {x : List D} : isiD .list (.tup x) = some false := Eq.trans rfl rfl
theorem is_list_lst {x : List D} : isiD .list (.lst x) = some true := Eq.trans rfl rfl
theorem is_list_non  : isiD .list (.non) = some false := Eq.trans rfl rfl
theorem is_str_int {x : Int} : isiD .str (.int x) = some false := Eq.trans rfl rfl
theorem is_str_bl {x : Bool} : isiD .str (.bl x) = some false := Eq.trans rfl rfl
theorem is_str_str {x : Str} : isiD .str (.str x) = some true := Eq.trans rfl rfl
theorem is_str_tup {x : List D} : isiD .str (.tup x) = some false := Eq.trans rfl rfl
theorem is_str_lst {x : List D} : isiD .str (.lst x) = some false := Eq.trans rfl rfl
theorem is_str_non  : isiD .str (.non) = some false := Eq.trans rfl rfl
theorem nn_int {x : Int} : isNon (.int x) = false := Eq.trans rfl rfl
theorem nn_bl {x : Bool} : isNon (.bl x) = false := Eq.trans rfl rfl
theorem nn_str {x : Str} : isNon (.str x) = false := Eq.trans rfl rfl
theorem nn_tup {x : List D} : isNon (.tup x) = false := Eq.trans rfl rfl
theorem nn_lst {x : List D} : isNon (.lst x) = false := Eq.trans rfl rfl
theorem nn_non  : isNon (.non) = true := Eq.trans rfl rfl
theorem itY_tup {xs : List D} : iterD (.tup xs) = some xs := Eq.trans rfl rfl
theorem it_lst {xs : List D} : iterD (.lst xs) = some xs := Eq.trans rfl rfl
theorem sq_tup {xs : List D} : seqD (.tup xs) = some xs := Eq.trans rfl rfl
theorem sq_lst {xs : List D} : seqD (.lst xs) = some xs := Eq.trans rfl rfl
theorem all_true {A : Type} (xs : List A) : primD .all [.lst (xs.map fun _ => D.bl true)] = some (.bl true) := by
  rw [show (xs.map fun _ => D.bl true) = (xs.map fun _ => true).map D.bl by rw [List.map_map]; rfl, all_bls]; simp
end Hx
namespace Hx
open PySem (Str)
section
variable {X : Str → List D → St → Prop} {A : Type}
/-- a for over a mapped list -/
theorem wp_forM {f : D → St → Res Flow} (xs : List A) (g : A → D) (I : List A → St → Prop) {Q : Flow → St → Prop} {s : St} (h0 : I [] s)
    (st : ∀ pre x post s, xs = pre ++ x :: post → I pre s → WP (f (g x) s) (fun fl s' => match fl with
      | .nx => I (pre ++ [x]) s'
      | .rt v => Q (.rt v) s') X) (he : ∀ s, I xs s → Q .nx s) : WP (forR f (xs.map g) s) Q X := by
  have go : ∀ (post pre : List A) (s : St), xs = pre ++ post → I pre s → WP (forR f (post.map g) s) Q X := by
    intro post
    induction post with
    | nil => intro pre s e h; rw [List.append_nil] at e; subst e; exact he s h
    | cons d post ih =>
      intro pre s e h
      show WP ((f (g d) s).bind _) Q X
      refine WP.then (st pre d post s e h) fun fl s' q => ?_
      cases fl with
      | nx => exact ih (pre ++ [d]) s' (by rw [e]; simp) q
      | rt v => exact q
  exact go xs [] s rfl h0
/-- a comprehension that leaves the state alone, over a mapped list -/
theorem wp_compM {f : D → List D → St → Res (List D)} (xs : List A) (g : A → D) (h : A → List D) (S : St → Prop) {acc : List D} {s : St} (h0 : S s) (hb : acc.length + (xs.flatMap h).length ≤ line)
    (st : ∀ x ∈ xs, ∀ acc s, S s → acc.length + (h x).length ≤ line → WP (f (g x) acc s) (fun a s' => a = acc ++ h x ∧ S s') X) : WP (compR f (xs.map g) acc s) (fun a s' => a = acc ++ xs.flatMap h ∧ S s') X := by
  induction xs generalizing acc s with
  | nil => exact ⟨by simp, h0⟩
  | cons x xs ih =>
    show WP ((f (g x) acc s).bind _) _ X
    rw [List.flatMap_cons, List.length_append] at hb
    refine WP.then (st x (by simp) acc s h0 (by omega)) fun a s' q => ?_
    obtain ⟨rfl, q⟩ := q
    refine (ih q (by rw [List.length_append]; omega) fun y hy => st y (by simp [hy])).imp fun a s1 z => ?_
    rw [List.flatMap_cons, ← List.append_assoc]
    exact z
end
theorem flat_one {A B : Type} (f : A → B) (xs : List A) : xs.flatMap (fun x => [f x]) = xs.map f := by
  induction xs with
  | nil => rfl
  | cons x xs ih => rw [List.flatMap_cons, ih]; rfl
section
variable {X : Str → List D → St → Prop} {A β : Type}
/-- .. and on -/
theorem wp_forB {f : D → St → Res Flow} {F : Flow → St → Res β} (xs : List A) (g : A → D) (I : List A → St → Prop) {Q : β → St → Prop} {s : St} (h0 : I [] s)
    (st : ∀ pre x post s, xs = pre ++ x :: post → I pre s → WP (f (g x) s) (fun fl s' => match fl with
      | .nx => I (pre ++ [x]) s'
      | .rt v => WP (F (.rt v) s') Q X) X) (he : ∀ s, I xs s → WP (F .nx s) Q X) : WP ((forR f (xs.map g) s).bind F) Q X := WP.bind (wp_forM xs g I h0 st he)
theorem wp_compB {f : D → List D → St → Res (List D)} {F : List D → St → Res β} (xs : List A) (g : A → D) (h : A → List D) (S : St → Prop) {Q : β → St → Prop} {s : St} (h0 : S s) (hb : (xs.flatMap h).length ≤ line)
    (st : ∀ x ∈ xs, ∀ acc s, S s → acc.length + (h x).length ≤ line → WP (f (g x) acc s) (fun a s' => a = acc ++ h x ∧ S s')) (he : ∀ s, S s → WP (F (xs.flatMap h) s) Q X) : WP ((noExc (compR f (xs.map g) [] s)).bind F) Q X :=
  WP.then (WP.noExc (wp_compM xs g h S (acc := []) h0 (by simpa using hb) st)) fun a s' q => by
    obtain ⟨rfl, q⟩ := q
    simpa using he s' q
/-- one element each -/
theorem wp_comp1 {f : D → List D → St → Res (List D)} {F : List D → St → Res β} (xs : List A) (g h : A → D) (S : St → Prop) {Q : β → St → Prop} {s : St} (h0 : S s) (hb : xs.length ≤ line)
    (st : ∀ x ∈ xs, ∀ acc s, S s → acc.length < line → WP (f (g x) acc s) (fun a s' => a = acc ++ [h x] ∧ S s')) (he : ∀ s, S s → WP (F (xs.map h) s) Q X) : WP ((noExc (compR f (xs.map g) [] s)).bind F) Q X := by
  have e : xs.flatMap (fun x => [h x]) = xs.map h := flat_one h xs
  refine wp_compB xs g (fun x => [h x]) S h0 (by rw [e, List.length_map]; exact hb) (fun x hx acc s q hl => st x hx acc s q (by have h1 : acc.length + 1 ≤ line := hl; omega)) fun s q => ?_
  rw [e]; exact he s q
end
theorem enumL_map {A : Type} (g : A → D) : ∀ (n : Nat) (xs : List A), enumL n (xs.map g) = (xs.zipIdx n).map fun p => .tup [.int (p.2 : Nat), g p.1]
  | _, [] => rfl
  | n, x :: xs => by
    show D.tup [.int n, g x] :: enumL (n + 1) (xs.map g) = _
    rw [enumL_map g (n + 1) xs]; rfl
theorem zipIdx_rng {A : Type} (d : A) (xs : List A) : xs.zipIdx = (List.range xs.length).map fun t => (xs.getD t d, t) := by
  apply List.ext_getElem
  · simp
  · intro i h1 h2
    simp at h1
    simp [h1]
theorem enumL_rng {A : Type} (d : A) (g : A → D) (xs : List A) : enumL 0 (xs.map g) = (List.range xs.length).map fun (t : Nat) => .tup [.int (t : Nat), g (xs.getD t d)] := by
  rw [enumL_map, zipIdx_rng d, List.map_map]; rfl
section
variable {X : Str → List D → St → Prop} {A β : Type}
/-- a for that looks for the first -/
theorem wp_find {f : D → St → Res Flow} (xs : List A) (g : A → D) (h : A → Option D) (S T : St → Prop) {s : St} (h0 : S s)
    (st : ∀ x ∈ xs, ∀ s, S s → WP (f (g x) s) (fun fl s' => match h x with
      | none => fl = .nx ∧ S s'
      | some v => fl = .rt v ∧ T s') X) : WP (forR f (xs.map g) s) (fun fl s' => match xs.findSome? h with
      | none => fl = .nx ∧ S s'
      | some v => fl = .rt v ∧ T s') X := by
  induction xs generalizing s with
  | nil => exact ⟨rfl, h0⟩
  | cons x xs ih =>
    show WP ((f (g x) s).bind _) _ X
    refine WP.then (st x (by simp) s h0) fun fl s' q => ?_
    rw [List.findSome?_cons]
    cases e : h x with
    | none =>
      rw [e] at q
      obtain ⟨rfl, q⟩ := q
      exact ih q fun y hy => st y (by simp [hy])
    | some v =>
      rw [e] at q
      obtain ⟨rfl, q⟩ := q
      exact ⟨rfl, q⟩
theorem wp_findB {f : D → St → Res Flow} {F : Flow → St → Res β} (xs : List A) (g : A → D) (h : A → Option D) (S T : St → Prop) {s : St} {Q : β → St → Prop} (h0 : S s)
    (st : ∀ x ∈ xs, ∀ s, S s → WP (f (g x) s) (fun fl s' => match h x with
      | none => fl = .nx ∧ S s'
      | some v => fl = .rt v ∧ T s') X) (he : ∀ s, S s → xs.findSome? h = none → WP (F .nx s) Q X) (hr : ∀ v s, T s → xs.findSome? h = some v → WP (F (.rt v) s) Q X) : WP ((forR f (xs.map g) s).bind F) Q X := by
  refine WP.then (wp_find xs g h S T h0 st) fun fl s' q => ?_
  cases e : xs.findSome? h with
  | none => rw [e] at q; obtain ⟨rfl, q⟩ := q; exact he s' q e
  | some v => rw [e] at q; obtain ⟨rfl, q⟩ := q; exact hr v s' q e
end
theorem zipL_map {A B : Type} (f : A → D) (g : B → D) : ∀ (xs : List A) (ys : List B), zipL (xs.map f) (ys.map g) = (xs.zip ys).map fun p => .tup [f p.1, g p.2]
  | [], _ => by simp [zipL]
  | _ :: _, [] => by simp [zipL]
  | x :: xs, y :: ys => by
    show D.tup [f x, g y] :: zipL (xs.map f) (ys.map g) = _
    rw [zipL_map f g xs ys]; rfl
theorem range_split {n x : Nat} {pre post : List Nat} (h : List.range n = pre ++ x :: post) : pre = List.range x ∧ x < n := by
  have hl : pre.length < (List.range n).length := by rw [h]; simp
  have hx : (List.range n)[pre.length]'hl = x := by simp [h]
  rw [List.getElem_range] at hx
  rw [List.length_range] at hl
  refine ⟨?_, by omega⟩
  have := congrArg (List.take pre.length) h
  rw [List.take_left', List.take_range] at this
  · rw [← this, ← hx, Nat.min_eq_left (by omega)]
  · rfl
abbrev Th := Int × Int
def thD (p : Th) : D := .tup [.int p.1, .int p.2]
def thLt (p q : Th) : Bool := if p.1 = q.1 then decide (p.2 < q.2) else decide (p.1 < q.1)
theorem lt_th (p q : Th) : (thD p).lt (thD q) = thLt p q := by
  show D.lt.lts [.int p.1, .int p.2] [.int q.1, .int q.2] = _
  unfold D.lt.lts D.lt.lts D.lt.lts thLt
  show (if (p.1 == q.1) = true then (if (p.2 == q.2) = true then false else decide (p.2 < q.2)) else decide (p.1 < q.1)) = _
  by_cases h : p.1 = q.1
  · by_cases h2 : p.2 = q.2
    · simp [h, h2]
    · simp [h, h2]
  · simp [h]
def insT (x : Th) : List Th → List Th
  | [] => [x]
  | y :: ys => if thLt y x then y :: insT x ys else x :: y :: ys
def sortT : List Th → List Th
  | [] => []
  | x :: xs => insT x (sortT xs)
theorem insS_th (x : Th) : ∀ xs : List Th, insS (thD x) (xs.map thD) = (insT x xs).map thD
  | [] => rfl
  | y :: ys => by
    show (if (thD y).lt (thD x) then thD y :: insS (thD x) (ys.map thD) else thD x :: thD y :: ys.map thD) = (insT x (y :: ys)).map thD
    rw [lt_th, insS_th x ys]
    show _ = (if thLt y x = true then y :: insT x ys else x :: y :: ys).map thD
    by_cases h : thLt y x = true
    · rw [if_pos h, if_pos h]; rfl
    · rw [if_neg h, if_neg h]; rfl
theorem sortD_th : ∀ xs : List Th, sortD (xs.map thD) = (sortT xs).map thD
  | [] => rfl
  | x :: xs => by
    show insS (thD x) (sortD (xs.map thD)) = _
    rw [sortD_th xs, insS_th]; rfl
theorem insT_perm (x : Th) : ∀ xs : List Th, (insT x xs).Perm (x :: xs)
  | [] => .refl _
  | y :: ys => by
    unfold insT
    split
    · exact ((insT_perm x ys).cons y).trans (.swap x y ys)
    · exact .refl _
theorem sortT_perm : ∀ xs : List Th, (sortT xs).Perm xs
  | [] => .refl _
  | x :: xs => (insT_perm x (sortT xs)).trans ((sortT_perm xs).cons x)
def thLe (p q : Th) : Prop := thLt q p = false
theorem thLe_trans {p q r : Th} (h1 : thLe p q) (h2 : thLe q r) : thLe p r := by
  unfold thLe thLt at *
  split at h1 <;> split at h2 <;> split <;> simp only [decide_eq_false_iff_not] at * <;> omega
theorem thLe_anti {p q : Th} (h1 : thLe p q) (h2 : thLe q p) : p = q := by
  obtain ⟨a, b⟩ := p
  obtain ⟨c, d⟩ := q
  unfold thLe thLt at *
  simp only at h1 h2
  split at h1 <;> split at h2 <;> simp only [decide_eq_false_iff_not, Prod.mk.injEq] at * <;> omega
theorem thLe_of_lt {p q : Th} (h : thLt p q = true) : thLe p q := by
  unfold thLe thLt at *
  split at h <;> split <;> simp only [decide_eq_false_iff_not, decide_eq_true_eq] at * <;> omega
theorem thLe_of_not {p q : Th} (h : ¬ thLt p q = true) : thLe q p := by
  unfold thLe; cases e : thLt p q with
  | false => rfl
  | true => exact absurd e h
theorem insT_sorted (x : Th) : ∀ xs : List Th, xs.Pairwise thLe → (insT x xs).Pairwise thLe
  | [], _ => List.pairwise_singleton _ _
  | y :: ys, h => by
    rw [List.pairwise_cons] at h
    unfold insT
    split
    · rename_i hl
      rw [List.pairwise_cons]
      refine ⟨fun z hz => ?_, insT_sorted x ys h.2⟩
      rcases List.mem_cons.mp ((insT_perm x ys).mem_iff.mp hz) with rfl | hz
      · exact thLe_of_lt hl
      · exact h.1 z hz
    · rename_i hl
      rw [List.pairwise_cons]
      have hxy := thLe_of_not hl
      refine ⟨fun z hz => ?_, List.pairwise_cons.mpr h⟩
      rcases List.mem_cons.mp hz with rfl | hz
      · exact hxy
      · exact thLe_trans hxy (h.1 z hz)
theorem sortT_sorted : ∀ xs : List Th, (sortT xs).Pairwise thLe
  | [] => List.Pairwise.nil
  | x :: xs => insT_sorted x _ (sortT_sorted xs)
theorem sorted_uniq : ∀ {xs ys : List Th}, xs.Perm ys → xs.Pairwise thLe → ys.Pairwise thLe → xs = ys
  | [], ys, p, _, _ => (List.nil_perm.mp p).symm ▸ rfl
  | x :: xs, [], p, _, _ => absurd p.length_eq (by simp)
  | x :: xs, y :: ys, p, hx, hy => by
    rw [List.pairwise_cons] at hx hy
    have e : x = y := by
      rcases List.mem_cons.mp (p.mem_iff.mp (List.mem_cons_self (a := x) (l := xs))) with e | m
      · exact e
      · rcases List.mem_cons.mp (p.mem_iff.mpr (List.mem_cons_self (a := y) (l := ys))) with e | m2
        · exact e.symm
        · exact thLe_anti (hx.1 y m2) (hy.1 x m)
    subst e
    rw [sorted_uniq (p.cons_inv) hx.2 hy.2]
theorem sortT_congr {xs ys : List Th} (p : xs.Perm ys) : sortT xs = sortT ys :=
  sorted_uniq ((sortT_perm xs).trans (p.trans (sortT_perm ys).symm)) (sortT_sorted xs) (sortT_sorted ys)
/-- a line's throws in order -/
def ordT (o : List Th) : List Th := (sortT o).reverse
theorem ordT_perm (o : List Th) : (ordT o).Perm o := (List.reverse_perm _).trans (sortT_perm o)
theorem ordT_ordT (o : List Th) : ordT (ordT o) = ordT o := by
  unfold ordT; rw [sortT_congr ((List.reverse_perm _).trans (sortT_perm o))]
theorem ordT_congr {xs ys : List Th} (p : xs.Perm ys) : ordT xs = ordT ys := by unfold ordT; rw [sortT_congr p]
theorem ordT_len (o : List Th) : (ordT o).length = o.length := (ordT_perm o).length_eq
theorem pl_th {n : Nat} (p : Th) : Pl (n + 1) (thD p) := Pl.tup (by intro x hx; simp at hx; rcases hx with rfl | rfl <;> exact Pl.int)
theorem alike_th (xs : List Th) : allAlike (xs.map thD) = true := by
  unfold allAlike
  rw [List.all_eq_true]
  intro a ha
  obtain ⟨n, _, rfl⟩ := List.mem_map.mp ha
  rw [Bool.and_eq_true, List.all_eq_true]
  refine ⟨(pl_th (n := 0) n).ok, fun b hb => ?_⟩
  obtain ⟨m, _, rfl⟩ := List.mem_map.mp hb
  rfl
theorem sortable_th (xs : List Th) : sortable (xs.map thD) = true := by
  unfold sortable
  rw [alike_th, Bool.true_and, Bool.or_eq_true]
  left
  rw [List.all_eq_true]
  intro a ha
  obtain ⟨n, _, rfl⟩ := List.mem_map.mp ha
  rfl
theorem sorted_lst {xs : List Th} : primD .sorted [.lst (xs.map thD)] = some (.lst ((sortT xs).map thD)) := by
  show (if sortable (xs.map thD) then some (D.lst (sortD (xs.map thD))) else none) = _
  rw [if_pos (sortable_th xs), sortD_th]
theorem sorted_tup {xs : List Th} : primD .sorted [.tup (xs.map thD)] = some (.lst ((sortT xs).map thD)) := by
  show (if sortable (xs.map thD) then some (D.lst (sortD (xs.map thD))) else none) = _
  rw [if_pos (sortable_th xs), sortD_th]
theorem rev_sorted {xs : List Th} : revD (.lst ((sortT xs).map thD)) = some (.lst ((ordT xs).map thD)) := by
  show some (D.lst ((sortT xs).map thD).reverse) = _
  rw [← List.map_reverse]; rfl
abbrev Bt := List (List Th)
abbrev Rw' := List Bt
def ownD (o : List Th) : D := .tup (o.map thD)
def beatD (b : Bt) : D := .tup (b.map ownD)
def rowD (r : Rw') : D := .tup (r.map beatD)
theorem pl_own {n : Nat} (o : List Th) : Pl (n + 2) (ownD o) := Pl.tup (by intro x hx; obtain ⟨p, _, rfl⟩ := List.mem_map.mp hx; exact pl_th p)
theorem pl_beat {n : Nat} (o : Bt) : Pl (n + 3) (beatD o) := Pl.tup (by intro x hx; obtain ⟨p, _, rfl⟩ := List.mem_map.mp hx; exact pl_own p)
theorem pl_row {n : Nat} (o : Rw') : Pl (n + 4) (rowD o) := Pl.tup (by intro x hx; obtain ⟨p, _, rfl⟩ := List.mem_map.mp hx; exact pl_beat p)
theorem len_own (o : List Th) : primD .len [ownD o] = some (.int o.length) := by unfold ownD; rw [len_tup, List.length_map]
theorem len_beat (o : Bt) : primD .len [beatD o] = some (.int o.length) := by unfold beatD; rw [len_tup, List.length_map]
theorem len_row (o : Rw') : primD .len [rowD o] = some (.int o.length) := by unfold rowD; rw [len_tup, List.length_map]
theorem iter_own (o : List Th) : iterD (ownD o) = some (o.map thD) := Eq.trans rfl rfl
theorem iter_beat (o : Bt) : iterD (beatD o) = some (o.map ownD) := Eq.trans rfl rfl
theorem iter_row (o : Rw') : iterD (rowD o) = some (o.map beatD) := Eq.trans rfl rfl
theorem seq_own (o : List Th) : seqD (ownD o) = some (o.map thD) := Eq.trans rfl rfl
theorem seq_beat (o : Bt) : seqD (beatD o) = some (o.map ownD) := Eq.trans rfl rfl
theorem seq_row (o : Rw') : seqD (rowD o) = some (o.map beatD) := Eq.trans rfl rfl
theorem isi_own (o : List Th) : isiD .tuple (ownD o) = some true := Eq.trans rfl rfl
theorem isi_beat (o : Bt) : isiD .tuple (beatD o) = some true := Eq.trans rfl rfl
theorem isi_row (o : Rw') : isiD .tuple (rowD o) = some true := Eq.trans rfl rfl
theorem list_own (o : List Th) : primD .list [ownD o] = some (.lst (o.map thD)) := Eq.trans rfl rfl
theorem list_row (o : Rw') : primD .list [rowD o] = some (.lst (o.map beatD)) := Eq.trans rfl rfl
theorem sorted_own (o : List Th) : primD .sorted [ownD o] = some (.lst ((sortT o).map thD)) := sorted_tup
theorem isN_row (o : Rw') : isNon (rowD o) = false := Eq.trans rfl rfl
theorem getD_get {A : Type} (l : List A) (d : A) {j : Nat} (h : j < l.length) : l.getD j d = l[j] := by simp [h]
theorem getD_mem {A : Type} (l : List A) (d : A) {j : Nat} (h : j < l.length) : l.getD j d ∈ l := by rw [getD_get l d h]; exact List.getElem_mem h
theorem row_at (r : Rw') {j : Nat} (h : j < r.length) {x : Int} (hx : x = (j : Int)) : (rowD r).getI (.int x) = some (beatD (r.getD j [])) := by
  unfold rowD
  rw [getI_tup hx (by rw [List.length_map]; exact h), List.getElem_map, getD_get _ _ h]
theorem beat_at (b : Bt) {j : Nat} (h : j < b.length) {x : Int} (hx : x = (j : Int)) : (beatD b).getI (.int x) = some (ownD (b.getD j [])) := by
  unfold beatD
  rw [getI_tup hx (by rw [List.length_map]; exact h), List.getElem_map, getD_get _ _ h]
/-- a row by its form, L its lines -/
structure RowOk (L : Nat) (r : Rw') : Prop where
  n1 : 1 ≤ r.length
  n2 : r.length ≤ 24
  l1 : 1 ≤ L
  l2 : L ≤ 6
  wide : ∀ b ∈ r, b.length = L
  room : ∀ b ∈ r, ∀ o ∈ b, o.length ≤ 4
  high : ∀ b ∈ r, ∀ o ∈ b, ∀ p ∈ o, 1 ≤ p.1 ∧ p.1 ≤ 15
  goal : ∀ b ∈ r, ∀ o ∈ b, ∀ p ∈ o, 0 ≤ p.2 ∧ p.2 < L
  srt : ∀ b ∈ r, ∀ o ∈ b, ordT o = o
theorem stTg_pair {i j : Nat} {a b : D} {env : List Sl} : stTg (.cons (.v i) (.cons (.v j) .nil)) (.tup [a, b]) env = some ((env.set i (.fz a)).set j (.fz b)) := Eq.trans rfl rfl
theorem getI_tbl {A : Type} {xs : List A} {f : A → D} {i : Int} {j : Nat} (h : i = (j : Int)) (hj : j < xs.length) (d : A) : D.getI (.lst (xs.map f)) (.int i) = some (f (xs.getD j d)) := by
  rw [getI_lst h (by rw [List.length_map]; exact hj), List.getElem_map, getD_get _ _ hj]
theorem getI_tbt {A : Type} {xs : List A} {f : A → D} {i : Int} {j : Nat} (h : i = (j : Int)) (hj : j < xs.length) (d : A) : D.getI (.tup (xs.map f)) (.int i) = some (f (xs.getD j d)) := by
  rw [getI_tup h (by rw [List.length_map]; exact hj), List.getElem_map, getD_get _ _ hj]
/-- where a throw lands -/
def toT (n t : Nat) (p : Th) : Nat := ((t + p.1) % (n : Int)).toNat
abbrev Tb := List (List Int)
def numsD (l : List Int) : List D := l.map D.int
/-- a table being made; as it is told -/
def tbD (t : Tb) : D := .lst (t.map fun l => .lst (numsD l))
def tbT (t : Tb) : D := .lst (t.map fun l => .tup (numsD l))
def at2 (t : Tb) (i j : Nat) : Int := (t.getD i []).getD j 0
def bump (t : Tb) (i j : Nat) : Tb := t.set i ((t.getD i []).set j (at2 t i j + 1))
structure Shape (n L : Nat) (t : Tb) : Prop where
  len : t.length = n
  wid : ∀ i, i < n → (t.getD i []).length = L
theorem getD_set {A : Type} (l : List A) (i j : Nat) (x d : A) : (l.set i x).getD j d = if i = j ∧ j < l.length then x else l.getD j d := by
  simp only [List.getD_eq_getElem?_getD, List.getElem?_set]
  by_cases h : i = j
  · subst h
    by_cases h2 : i < l.length
    · simp [h2]
    · simp [h2]
  · simp [h]
theorem Shape.bump {n L : Nat} {t : Tb} (h : Shape n L t) (i j : Nat) : Shape n L (bump t i j) := by
  unfold Hx.bump
  refine ⟨by rw [List.length_set]; exact h.len, fun k hk => ?_⟩
  rw [getD_set]
  split
  · rename_i e
    rw [List.length_set, e.1]
    exact h.wid k hk
  · exact h.wid k hk
theorem at_bump {n L : Nat} {t : Tb} (h : Shape n L t) {i j : Nat} (hi : i < n) (hj : j < L) (i' j' : Nat) : at2 (Hx.bump t i j) i' j' = at2 t i' j' + if i = i' ∧ j = j' then 1 else 0 := by
  unfold at2 Hx.bump
  rw [getD_set]
  by_cases e : i = i'
  · subst e
    rw [if_pos ⟨rfl, by rw [h.len]; exact hi⟩, getD_set]
    by_cases e2 : j = j'
    · subst e2
      rw [if_pos ⟨rfl, by rw [h.wid i hi]; exact hj⟩]
      simp [at2]
    · rw [if_neg (fun z => e2 z.1)]
      simp [e2]
  · rw [if_neg (fun z => e z.1)]
    simp [e]
def zero (n L : Nat) : Tb := List.replicate n (List.replicate L 0)
theorem shape_zero (n L : Nat) : Shape n L (zero n L) := ⟨List.length_replicate .., fun i hi => by
  unfold zero
  rw [List.getD_eq_getElem?_getD, List.getElem?_replicate, if_pos hi]
  exact List.length_replicate ..⟩
theorem tbD_row {n L : Nat} {t : Tb} (h : Shape n L t) {i : Nat} (hi : i < n) {x : Int} (hx : x = (i : Int)) : (tbD t).getI (.int x) = some (.lst (numsD (t.getD i []))) := by
  unfold tbD
  rw [getI_lst hx (by rw [List.length_map, h.len]; exact hi), List.getElem_map]
  rw [getD_get _ _ (by rw [h.len]; exact hi)]
theorem nums_at {l : List Int} {j : Nat} (hj : j < l.length) {y : Int} (hy : y = (j : Int)) : (D.lst (numsD l)).getI (.int y) = some (.int (l.getD j 0)) := by
  unfold numsD
  rw [getI_lst hy (by rw [List.length_map]; exact hj), List.getElem_map, getD_get _ _ hj]
theorem nums_at_t {l : List Int} {j : Nat} (hj : j < l.length) {y : Int} (hy : y = (j : Int)) : (D.tup (numsD l)).getI (.int y) = some (.int (l.getD j 0)) := by
  unfold numsD
  rw [getI_tup hy (by rw [List.length_map]; exact hj), List.getElem_map, getD_get _ _ hj]
theorem nums_set {l : List Int} {j : Nat} (hj : j < l.length) {y v : Int} (hy : y = (j : Int)) : (D.lst (numsD l)).setI (.int y) (.int v) = some (.lst (numsD (l.set j v))) := by
  unfold numsD
  rw [setY_lst hy (by rw [List.length_map]; exact hj), List.map_set]
theorem tbD_set {n L : Nat} {t : Tb} (h : Shape n L t) {i : Nat} (hi : i < n) {x : Int} (hx : x = (i : Int)) {l : List Int} : (tbD t).setI (.int x) (.lst (numsD l)) = some (tbD (t.set i l)) := by
  unfold tbD
  rw [setY_lst hx (by rw [List.length_map, h.len]; exact hi), List.map_set]
theorem getP_nil {d : D} : getP [] d = some d := by cases d <;> rfl
theorem getP_one {i : D} {xs : List D} : getP [i] (.lst xs) = (D.lst xs).getI i := by
  unfold getP
  cases (D.lst xs).getI i with
  | none => rfl
  | some x => exact getP_nil
theorem updP_nil {f : D → Option D} {d : D} : updP f [] d = f d := by cases d <;> rfl
theorem updP_one {f : D → Option D} {i : D} {xs : List D} : updP f [i] (.lst xs) = ((D.lst xs).getI i).bind fun x => (f x).bind fun y => (D.lst xs).setI i y := by
  unfold updP
  cases (D.lst xs).getI i with
  | none => rfl
  | some x => simp only [Option.bind_some, updP_nil]
/-- a number of the table, made one more -/
theorem tb_step {n L : Nat} {t : Tb} (h : Shape n L t) {i j : Nat} (hi : i < n) (hj : j < L) {x y v : Int} (hx : x = (i : Int)) (hy : y = (j : Int)) (hv : v = at2 t i j + 1) :
    updP (fun d => d.setI (.int y) (.int v)) [.int x] (tbD t) = some (tbD (bump t i j)) := by
  show updP _ _ (D.lst _) = _
  rw [updP_one]
  show ((tbD t).getI (.int x)).bind _ = _
  rw [tbD_row h hi hx, Option.bind_some, nums_set (by rw [h.wid i hi]; exact hj) hy, Option.bind_some]
  show (tbD t).setI _ _ = _
  rw [tbD_set h hi hx, hv]; rfl
theorem tb_get {n L : Nat} {t : Tb} (h : Shape n L t) {i : Nat} (hi : i < n) {x : Int} (hx : x = (i : Int)) : getP [.int x] (tbD t) = some (.lst (numsD (t.getD i []))) := by
  show getP _ (D.lst _) = _
  rw [getP_one]
  exact tbD_row h hi hx
section
variable {sem : Sem} {rd : Nat → Nat} {n L : Nat} {t : Tb} {i j : Nat} {x y : Int} {d0 : Sl} {r : List Sl} {w : Wd} {pe je e : E}
theorem tb_okN0 : okN 1 [] ⟨d0 :: .ow 2 (tbD t) :: r, w⟩ = true := rfl
theorem tb_okN (h : Shape n L t) (hi : i < n) (hx : x = (i : Int)) : okN 1 [.int x] ⟨d0 :: .ow 2 (tbD t) :: r, w⟩ = true := by
  show (decide (1 < 2) && (getP [.int x] (tbD t)).isSome) = true
  rw [tb_get h hi hx]; rfl
theorem tb_okL (h : Shape n L t) (hi : i < n) (hx : x = (i : Int)) : okL 1 [.int x] ⟨d0 :: .ow 2 (tbD t) :: r, w⟩ = true := by
  show (decide (1 < 2) && (match getP [.int x] (tbD t) with
    | some (.lst _) => true
    | _ => false)) = true
  rw [tb_get h hi hx]; rfl
theorem tb_atN (h : Shape n L t) (hi : i < n) (hj : j < L) (hx : x = (i : Int)) (hy : y = (j : Int)) : atN 1 [.int x] (.int y) ⟨d0 :: .ow 2 (tbD t) :: r, w⟩ = some (.int (at2 t i j)) := by
  show (if 1 < 2 then (getP [.int x] (tbD t)).bind _ else none) = _
  rw [if_pos (by omega), tb_get h hi hx]
  show ((D.lst (numsD (t.getD i []))).getI (.int y)).bind _ = _
  rw [nums_at (by rw [h.wid i hi]; exact hj) hy]; rfl
theorem tb_chg (h : Shape n L t) (hi : i < n) (hj : j < L) (hx : x = (i : Int)) (hy : y = (j : Int)) {m : Nat} {v : Int} (hv : v = at2 t i j + 1) :
    chg 1 [.int x] m (fun d => d.setI (.int y) (.int v)) ⟨d0 :: .ow 2 (tbD t) :: r, w⟩ = .ok () ⟨d0 :: .ow 2 (tbD (bump t i j)) :: r, w⟩ := by
  have e : (1 < 2 ∧ 2 ≤ 1 + 1 + m) := ⟨by omega, by omega⟩
  unfold chg
  show ((opt (some (2, tbD t)) _).bind _) = _
  simp only [opt_some, bind_ok]
  show (if 1 < 2 ∧ 2 ≤ 1 + 1 + m then _ else _) = _
  rw [if_pos e, tb_step h hi hj hx hy hv]; rfl
/-- o[p][j] += 1 -/
theorem tb_augp (h : Shape n L t) (hi : i < n) (hj : j < L) (hx : x = (i : Int)) (hy : y = (j : Int)) (hp : ev sem pe 0 ⟨d0 :: .ow 2 (tbD t) :: r, w⟩ = .ok (.int x) ⟨d0 :: .ow 2 (tbD t) :: r, w⟩) (hq : ev sem je 0 ⟨d0 :: .ow 2 (tbD t) :: r, w⟩ = .ok (.int y) ⟨d0 :: .ow 2 (tbD t) :: r, w⟩) :
    ex sem rd (.augp 1 (.cons pe .nil) je .add (.cst (.int 1))) ⟨d0 :: .ow 2 (tbD t) :: r, w⟩ = .ok .nx ⟨d0 :: .ow 2 (tbD (bump t i j)) :: r, w⟩ := by
  rw [ex_augp, evN_cons', if_pos tb_okN0, hp, bind_ok, evN_nil', List.nil_append, if_pos (tb_okN h hi hx), bind_ok, if_pos (tb_okL h hi hx), hq, bind_ok, tb_atN h hi hj hx hy, opt_some, bind_ok, ev_cst, bind_ok]
  show ((opt (some (D.int (at2 t i j + 1))) _).bind _) = _
  rw [opt_some, bind_ok, tb_chg h hi hj hx hy rfl, bind_ok]
/-- o[p][j] = what stands there and 1 -/
theorem tb_setp (h : Shape n L t) (hi : i < n) (hj : j < L) (hx : x = (i : Int)) (hy : y = (j : Int)) (he : ev sem e 0 ⟨d0 :: .ow 2 (tbD t) :: r, w⟩ = .ok (.int (at2 t i j + 1)) ⟨d0 :: .ow 2 (tbD t) :: r, w⟩) (hp : ev sem pe 0 ⟨d0 :: .ow 2 (tbD t) :: r, w⟩ = .ok (.int x) ⟨d0 :: .ow 2 (tbD t) :: r, w⟩) (hq : ev sem je 0 ⟨d0 :: .ow 2 (tbD t) :: r, w⟩ = .ok (.int y) ⟨d0 :: .ow 2 (tbD t) :: r, w⟩) :
    ex sem rd (.setp 1 (.cons pe .nil) je e) ⟨d0 :: .ow 2 (tbD t) :: r, w⟩ = .ok .nx ⟨d0 :: .ow 2 (tbD (bump t i j)) :: r, w⟩ := by
  rw [ex_setp, he, bind_ok, evN_cons', if_pos tb_okN0, hp, bind_ok, evN_nil', List.nil_append, if_pos (tb_okN h hi hx), bind_ok, hq, bind_ok, tb_chg h hi hj hx hy rfl, bind_ok]
end
theorem WP.eq {α : Type} {r : Res α} {a : α} {s : St} (h : WP r (fun b s' => b = a ∧ s' = s)) : r = .ok a s := by
  cases r with
  | ok b s' => obtain ⟨rfl, rfl⟩ := h; rfl
  | exc c fs s => exact h.elim
  | stuck => exact h.elim
/-- a list of the slot 1, one thing more -/
theorem app_own {sem : Sem} {rd : Nat → Nat} {d0 : Sl} {xs : List D} {x : D} {r : List Sl} {w : Wd} {e : E} {s' : St} (hs : s' = ⟨d0 :: .ow 1 (.lst xs) :: r, w⟩) (hl : xs.length < line) (he : ev sem e 0 s' = .ok x s') :
    ex sem rd (.app 1 .nil e) s' = .ok .nx ⟨d0 :: .ow 1 (.lst (xs ++ [x])) :: r, w⟩ := by
  subst hs
  have a1 : okN 1 [] ⟨d0 :: .ow 1 (.lst xs) :: r, w⟩ = true := rfl
  have a2 : okL 1 [] ⟨d0 :: .ow 1 (.lst xs) :: r, w⟩ = true := rfl
  rw [ex_app, evN_nil', if_pos a1, bind_ok, if_pos a2, he, bind_ok]
  unfold chg
  show (((opt (some (1, D.lst xs)) _).bind _).bind _) = _
  simp only [opt_some, bind_ok]
  show (Res.bind (if 0 < 1 ∧ 1 ≤ 0 + 1 + dep rd e then _ else _) _) = _
  rw [if_pos ⟨by omega, by omega⟩, updP_nil]
  show (Res.bind (Res.bind (opt (if xs.length < line then some (D.lst (xs ++ [x])) else none) _) _) _) = _
  rw [if_pos hl]; rfl
end Hx
namespace Hx
open PySem (Str)
/-- beats being made -/
def bldO (o : List Th) : D := .lst (o.map thD)
def bldB (b : Bt) : D := .lst (b.map bldO)
def bldD (r : Rw') : D := .lst (r.map bldB)
def own2 (r : Rw') (t a : Nat) : List Th := (r.getD t []).getD a []
def put2 (r : Rw') (t a : Nat) (o : List Th) : Rw' := r.set t ((r.getD t []).set a o)
/-- n beats of L lines -/
structure Sq (n L : Nat) (r : Rw') : Prop where
  len : r.length = n
  wid : ∀ t, t < n → (r.getD t []).length = L
theorem Sq.put {n L : Nat} {r : Rw'} (h : Sq n L r) (t a : Nat) (o : List Th) : Sq n L (put2 r t a o) := by
  unfold put2
  refine ⟨by rw [List.length_set]; exact h.len, fun k hk => ?_⟩
  rw [getD_set]
  split
  · rename_i e
    rw [List.length_set, e.1]
    exact h.wid k hk
  · exact h.wid k hk
theorem own_put {n L : Nat} {r : Rw'} (h : Sq n L r) {t a : Nat} (ht : t < n) (ha : a < L) (o : List Th) (t' a' : Nat) : own2 (put2 r t a o) t' a' = if t = t' ∧ a = a' then o else own2 r t' a' := by
  unfold own2 put2
  rw [getD_set]
  by_cases e : t = t'
  · subst e
    rw [if_pos ⟨rfl, by rw [h.len]; exact ht⟩, getD_set]
    by_cases e2 : a = a'
    · subst e2
      rw [if_pos ⟨rfl, by rw [h.wid t ht]; exact ha⟩]
      simp
    · rw [if_neg (fun z => e2 z.1)]
      simp [e2]
  · rw [if_neg (fun z => e z.1)]
    simp [e]
theorem bldD_at {r : Rw'} {t : Nat} {x : Int} (hx : x = (t : Int)) (ht : t < r.length) : (bldD r).getI (.int x) = some (bldB (r.getD t [])) := getI_tbl hx ht []
theorem bldB_at {b : Bt} {t : Nat} {x : Int} (hx : x = (t : Int)) (ht : t < b.length) : (bldB b).getI (.int x) = some (bldO (b.getD t [])) := getI_tbl hx ht []
section
variable {sem : Sem} {rd : Nat → Nat} {n L : Nat} {r : Rw'} {i t a : Nat} {x y : Int} {s : St} {pe qe e : E}
theorem bs_get1 (h : Sq n L r) (ht : t < n) (hx : x = (t : Int)) : getP [.int x] (bldD r) = some (bldB (r.getD t [])) := by
  show getP _ (D.lst _) = _
  rw [getP_one]
  exact bldD_at hx (by rw [h.len]; exact ht)
theorem bs_get (h : Sq n L r) (ht : t < n) (ha : a < L) (hx : x = (t : Int)) (hy : y = (a : Int)) : getP [.int x, .int y] (bldD r) = some (bldO (own2 r t a)) := by
  show ((D.lst _).getI (.int x)).bind (fun z => getP [.int y] z) = _
  have e := bldD_at hx (r := r) (by rw [h.len]; exact ht)
  unfold bldD at e
  rw [e, Option.bind_some]
  show getP _ (D.lst _) = _
  rw [getP_one]
  exact bldB_at hy (by rw [h.wid t ht]; exact ha)
theorem bs_upd (h : Sq n L r) (ht : t < n) (ha : a < L) (hx : x = (t : Int)) (hy : y = (a : Int)) {f : D → Option D} {o : List Th} (hf : f (bldO (own2 r t a)) = some (bldO o)) : updP f [.int x, .int y] (bldD r) = some (bldD (put2 r t a o)) := by
  show ((D.lst _).getI (.int x)).bind (fun z => (updP f [.int y] z).bind fun u => (D.lst _).setI (.int x) u) = _
  have e := bldD_at hx (r := r) (by rw [h.len]; exact ht)
  unfold bldD at e
  rw [e, Option.bind_some]
  show ((updP f [.int y] (D.lst _)).bind _) = _
  rw [updP_one]
  have e2 := bldB_at hy (b := r.getD t []) (by rw [h.wid t ht]; exact ha)
  unfold bldB at e2
  rw [e2, Option.bind_some]
  have hf' : f (bldO ((r.getD t []).getD a [])) = some (bldO o) := hf
  rw [hf', Option.bind_some, setY_lst hy (by rw [List.length_map, h.wid t ht]; exact ha), Option.bind_some, setY_lst hx (by rw [List.length_map, h.len]; exact ht)]
  unfold put2 bldD
  rw [List.map_set]
  unfold bldB
  rw [List.map_set]
theorem bs_okN0 (hs : s.env[i]? = some (.ow 3 (bldD r))) : okN i [] s = true := by
  unfold okN; rw [hs]; rfl
theorem bs_okN1 (hs : s.env[i]? = some (.ow 3 (bldD r))) (h : Sq n L r) (ht : t < n) (hx : x = (t : Int)) : okN i [.int x] s = true := by
  unfold okN; rw [hs]
  show (decide (1 < 3) && (getP [.int x] (bldD r)).isSome) = true
  rw [bs_get1 h ht hx]; rfl
theorem bs_okN2 (hs : s.env[i]? = some (.ow 3 (bldD r))) (h : Sq n L r) (ht : t < n) (ha : a < L) (hx : x = (t : Int)) (hy : y = (a : Int)) : okN i [.int x, .int y] s = true := by
  unfold okN; rw [hs]
  show (decide (2 < 3) && (getP [.int x, .int y] (bldD r)).isSome) = true
  rw [bs_get h ht ha hx hy]; rfl
theorem bs_okL (hs : s.env[i]? = some (.ow 3 (bldD r))) (h : Sq n L r) (ht : t < n) (ha : a < L) (hx : x = (t : Int)) (hy : y = (a : Int)) : okL i [.int x, .int y] s = true := by
  unfold okL; rw [hs]
  show (decide (2 < 3) && (match getP [.int x, .int y] (bldD r) with
    | some (.lst _) => true
    | _ => false)) = true
  rw [bs_get h ht ha hx hy]; rfl
theorem bs_evN (hs : s.env[i]? = some (.ow 3 (bldD r))) (h : Sq n L r) (ht : t < n) (ha : a < L) (hx : x = (t : Int)) (hy : y = (a : Int)) (hp : ev sem pe 0 s = .ok (.int x) s) (hq : ev sem qe 0 s = .ok (.int y) s) :
    evN sem i (.cons pe (.cons qe .nil)) [] s = .ok [.int x, .int y] s := by
  rw [evN_cons', if_pos (bs_okN0 hs), hp, bind_ok, evN_cons', List.nil_append, if_pos (bs_okN1 hs h ht hx), hq, bind_ok, evN_nil']
  show (if okN i [.int x, .int y] s = true then _ else _) = _
  rw [if_pos (bs_okN2 hs h ht ha hx hy)]; rfl
theorem bs_chg (hs : s.env[i]? = some (.ow 3 (bldD r))) (h : Sq n L r) (ht : t < n) (ha : a < L) (hx : x = (t : Int)) (hy : y = (a : Int)) {m : Nat} {f : D → Option D} {o : List Th} (hf : f (bldO (own2 r t a)) = some (bldO o)) :
    chg i [.int x, .int y] m f s = .ok () { s with env := s.env.set i (.ow 3 (bldD (put2 r t a o))) } := by
  unfold chg
  rw [hs]
  show ((opt (some (3, bldD r)) _).bind _) = _
  simp only [opt_some, bind_ok]
  show (if 2 < 3 ∧ 3 ≤ 2 + 1 + m then _ else _) = _
  rw [if_pos ⟨by omega, by omega⟩, bs_upd h ht ha hx hy hf]; rfl
/-- o[p][q].append(e) -/
theorem bs_app {s1 : St} {z : Th} (hs : s.env[i]? = some (.ow 3 (bldD r))) (h : Sq n L r) (ht : t < n) (ha : a < L) (hx : x = (t : Int)) (hy : y = (a : Int)) (hp : ev sem pe 0 s = .ok (.int x) s) (hq : ev sem qe 0 s = .ok (.int y) s)
    (he : ev sem e 0 s = .ok (thD z) s1) (hs1 : s1.env[i]? = some (.ow 3 (bldD r))) (hl : (own2 r t a).length < line) :
    ex sem rd (.app i (.cons pe (.cons qe .nil)) e) s = .ok .nx { s1 with env := s1.env.set i (.ow 3 (bldD (put2 r t a (own2 r t a ++ [z])))) } := by
  rw [ex_app, bs_evN hs h ht ha hx hy hp hq, bind_ok, if_pos (bs_okL hs h ht ha hx hy), he, bind_ok, bs_chg hs1 h ht ha hx hy (o := own2 r t a ++ [z]), bind_ok]
  show (if (((own2 r t a).map thD).length < line) then some (D.lst ((own2 r t a).map thD ++ [thD z])) else none) = _
  rw [if_pos (by rw [List.length_map]; exact hl)]
  unfold bldO
  rw [List.map_append]; rfl
/-- o[p][q].pop() -/
theorem bs_pop (hs : s.env[i]? = some (.ow 3 (bldD r))) (h : Sq n L r) (ht : t < n) (ha : a < L) (hx : x = (t : Int)) (hy : y = (a : Int)) (hp : ev sem pe 0 s = .ok (.int x) s) (hq : ev sem qe 0 s = .ok (.int y) s) (hne : own2 r t a ≠ []) :
    ex sem rd (.pop .dr i (.cons pe (.cons qe .nil)) .nil) s = .ok .nx { s with env := s.env.set i (.ow 3 (bldD (put2 r t a (own2 r t a).dropLast))) } := by
  have hp0 := List.length_pos_iff.mpr hne
  have e1 : popD none (bldO (own2 r t a)) = some (thD ((own2 r t a)[(own2 r t a).length - 1]'(by omega)), bldO (own2 r t a).dropLast) := by
    show (((own2 r t a).map thD)[((own2 r t a).map thD).length - 1]?).map _ = _
    rw [List.length_map, List.getElem?_map, List.getElem?_eq_getElem (by omega)]
    show some (_, D.lst (((own2 r t a).map thD).eraseIdx _)) = _
    have e0 : ((own2 r t a).map thD).eraseIdx ((own2 r t a).length - 1) = (own2 r t a).dropLast.map thD := by
      rw [List.map_dropLast, ← List.eraseIdx_length_sub_one, List.length_map]
    rw [e0]; rfl
  rw [ex_pop, bs_evN hs h ht ha hx hy hp hq, bind_ok, if_pos (bs_okL hs h ht ha hx hy), evA_nil, bind_ok, hs]
  show ((opt (some (3, bldD r)) s).bind _) = _
  rw [opt_some, bind_ok]
  show (if 2 < 3 then ((opt ((getP [.int x, .int y] (bldD r)).bind (popD none)) s).bind _) else _) = _
  rw [if_pos (by omega), bs_get h ht ha hx hy, Option.bind_some, e1, opt_some, bind_ok]
  show ((opt (updP (fun d => (popD none d).map (·.2)) [.int x, .int y] (bldD r)) s).bind _) = _
  rw [bs_upd h ht ha hx hy (o := (own2 r t a).dropLast) (by rw [e1]; rfl), opt_some, bind_ok]
  rfl
/-- o[p][q][0] = e -/
theorem bs_set0 {s1 : St} {z : Th} {je : E} (he : ev sem e 0 s = .ok (thD z) s1) (hs1 : s1.env[i]? = some (.ow 3 (bldD r))) (h : Sq n L r) (ht : t < n) (ha : a < L) (hx : x = (t : Int)) (hy : y = (a : Int)) (hp : ev sem pe 0 s1 = .ok (.int x) s1) (hq : ev sem qe 0 s1 = .ok (.int y) s1)
    (hj : ev sem je 0 s1 = .ok (.int 0) s1) (hne : own2 r t a ≠ []) :
    ex sem rd (.setp i (.cons pe (.cons qe .nil)) je e) s = .ok .nx { s1 with env := s1.env.set i (.ow 3 (bldD (put2 r t a ((own2 r t a).set 0 z)))) } := by
  have hp0 := List.length_pos_iff.mpr hne
  rw [ex_setp, he, bind_ok, bs_evN hs1 h ht ha hx hy hp hq, bind_ok, hj, bind_ok, bs_chg hs1 h ht ha hx hy (o := (own2 r t a).set 0 z), bind_ok]
  unfold bldO
  rw [setY_lst (i := 0) (j := 0) rfl (by rw [List.length_map]; exact hp0), List.map_set]
/-- the thing at a place of a list of one's own, taken out -/
theorem pop_own {tg : Tg} {je : E} {s1 : St} {xs : List D} {j : Nat} (hs : s.env[i]? = some (.ow 1 (.lst xs))) (he : evA sem je s = .ok [.int x] s1) (hs1 : s1.env[i]? = some (.ow 1 (.lst xs))) (hx : x = (j : Int)) (hj : j < xs.length) (hb : xs.length < 2 ^ 40) :
    ex sem rd (.pop tg i .nil je) s = (opt (stTg tg xs[j] (s1.env.set i (.ow 1 (.lst (xs.eraseIdx j))))) s1).bind fun env s => .ok .nx { s with env := env } := by
  have a1 : okN i [] s = true := by unfold okN; rw [hs]; rfl
  have a2 : okL i [] s = true := by unfold okL; rw [hs]; rfl
  have e1 : popD (some (.int x)) (.lst xs) = some (xs[j], .lst (xs.eraseIdx j)) := by
    show (if (decide (-(2 ^ 62) ≤ x) && decide (x < 2 ^ 62)) = true then _ else _) = _
    rw [if_pos (by rw [Bool.and_eq_true, decide_eq_true_eq, decide_eq_true_eq]; omega)]
    unfold ixP
    rw [if_pos (by omega), if_pos (by omega), Option.bind_some]
    have : x.toNat = j := by omega
    rw [this, List.getElem?_eq_getElem hj]; rfl
  rw [ex_pop, evN_nil', if_pos a1, bind_ok, if_pos a2, he, bind_ok, hs1]
  show ((opt (some (1, D.lst xs)) s1).bind _) = _
  rw [opt_some, bind_ok]
  show (if 0 < 1 then ((opt ((getP [] (D.lst xs)).bind (popD (some (.int x)))) s1).bind _) else _) = _
  rw [if_pos (by omega), getP_nil, Option.bind_some, e1, opt_some, bind_ok]
  show ((opt (updP (fun d => (popD (some (.int x)) d).map (·.2)) [] (D.lst xs)) s1).bind _) = _
  rw [updP_nil, e1]
  rfl
end
theorem sum_upd {f g : Nat → Nat} {t : Nat} : ∀ {n : Nat}, t < n → (∀ k, k ≠ t → f k = g k) → ((List.range n).map f).sum + g t = ((List.range n).map g).sum + f t
  | 0, h, _ => absurd h (Nat.not_lt_zero _)
  | n + 1, h, e => by
    rw [List.range_succ, List.map_append, List.map_append, List.sum_append, List.sum_append]
    simp only [List.map_cons, List.map_nil, List.sum_cons, List.sum_nil, Nat.add_zero]
    by_cases q : t = n
    · subst q
      have : (List.range t).map f = (List.range t).map g := List.map_congr_left fun k hk => e k (by have := List.mem_range.mp hk; omega)
      rw [this]; omega
    · have h1 := sum_upd (n := n) (by omega) e
      have h2 := e n (by omega)
      omega
theorem sum_set {A : Type} (f : A → Nat) : ∀ (l : List A) (i : Nat) (x d : A), i < l.length → ((l.set i x).map f).sum + f (l.getD i d) = (l.map f).sum + f x
  | [], i, _, _, h => absurd h (Nat.not_lt_zero _)
  | y :: l, 0, x, d, _ => by simp; omega
  | y :: l, i + 1, x, d, h => by
    have := sum_set f l i x d (by simpa using h)
    simp at this ⊢
    omega
def hit (n t : Nat) (q : Nat × Nat) (p : Th) : Bool := decide (toT n t p = q.1 ∧ p.2.toNat = q.2)
def cO (n t : Nat) (q : Nat × Nat) (o : List Th) : Nat := o.countP (hit n t q)
def cB (n t : Nat) (q : Nat × Nat) (b : Bt) : Nat := (b.map (cO n t q)).sum
def cR (n : Nat) (r : Rw') (q : Nat × Nat) : Nat := ((List.range n).map fun t => cB n t q (r.getD t [])).sum
theorem cO_put {n L : Nat} {r : Rw'} (h : Sq n L r) {t a : Nat} (ht : t < n) (ha : a < L) (o : List Th) (q : Nat × Nat) : cR n (put2 r t a o) q + cO n t q (own2 r t a) = cR n r q + cO n t q o := by
  unfold cR
  have e1 := sum_upd (f := fun k => cB n k q ((put2 r t a o).getD k [])) (g := fun k => cB n k q (r.getD k [])) ht (fun k hk => by
    show cB n k q ((put2 r t a o).getD k []) = cB n k q (r.getD k [])
    unfold put2
    rw [getD_set, if_neg (fun z => hk z.1.symm)])
  have e2 : cB n t q ((put2 r t a o).getD t []) + cO n t q (own2 r t a) = cB n t q (r.getD t []) + cO n t q o := by
    unfold put2
    rw [getD_set, if_pos ⟨rfl, by rw [h.len]; exact ht⟩]
    exact sum_set (cO n t q) (r.getD t []) a o [] (by rw [h.wid t ht]; exact ha)
  omega
theorem erase_perm {A : Type} : ∀ (l : List A) (j : Nat) (h : j < l.length), l.Perm (l[j] :: l.eraseIdx j)
  | [], j, h => absurd h (Nat.not_lt_zero _)
  | x :: l, 0, h => .refl _
  | x :: l, j + 1, h => ((erase_perm l j (by simpa using h)).cons x).trans (.swap _ _ _)
end Hx
namespace Hx
open PySem (Str)
theorem s_is_whole {k : Nat} {a lo hi : Int} {w : Wd} : semT tbl (k + 1) 0 [.int a, .int lo, .int hi] w = .ok (.bl (decide (lo ≤ a) && decide (a ≤ hi))) [] w := by
  refine sem_eq (fn := f_is_whole) rfl rfl ?_
  by_cases h : lo ≤ a <;> simp [f_is_whole, ex_skip, ex_seq, ex_asg, ex_asgo, ex_par, ex_aug, ex_xpr, ex_ite, ex_ret, ex_retn, ex_rai, ex_fr, ex_whl, ev_var, ev_cst, ev_glb, ev_tup, ev_lst, ev_bin, ev_neg, ev_not, ev_and, ev_or, ev_ife, ev_cmp, ev_chn, ev_call, ev_prm, ev_idx, ev_slc, ev_rev, ev_isi, ev_mkt, ev_draw, ev_comp, evA_nil, evA_cons, evP_nil, evP_cons, evO_nil, evO_cons, evI_rng, evI_enu, evI_zip, evI_it, evG_elt, evG_for, bind_bind, bind_ok, bind_exc, bind_stuck, bind_ite, opt_some, ofRW_ok, ofRW_exc, wp_ok, cmp_le, cmp_ge, cmp_lt, cmp_gt, cmp_eq, cmp_ne, cmp_eqb, cmp_isb, cmp_nisb, cmp_isn, cmp_nis, is_int_int, is_int_bl, is_int_str, is_int_tup, is_int_lst, is_int_non, is_bool_int, is_bool_bl, is_bool_str, is_bool_tup, is_bool_lst, is_bool_non, is_tuple_int, is_tuple_bl, is_tuple_str, is_tuple_tup, is_tuple_lst, is_tuple_non, is_list_int, is_list_bl, is_list_str, is_list_tup, is_list_lst, is_list_non, is_str_int, is_str_bl, is_str_str, is_str_tup, is_str_lst, is_str_non, nn_int, nn_bl, nn_str, nn_tup, nn_lst, nn_non, itY_tup, it_lst, sq_tup, sq_lst, len_own, len_beat, len_row, iter_own, iter_beat, iter_row, seq_own, seq_beat, seq_row, isi_own, isi_beat, isi_row, list_own, list_row, sorted_own, isN_row, add_int, sub_int, len_tup, len_lst, tuple_lst, tuple_tup, list_lst, list_tup, stTg, List.getElem?_cons_zero, List.getElem?_cons_succ, List.set_cons_zero, List.set_cons_succ, Option.map_some, Option.bind_some, Prim.look, List.headD_cons, List.tail_cons, slots0, List.zipIdx_cons, List.zipIdx_nil, List.map_cons, List.map_nil, List.lookup_nil, List.replicate_succ, List.replicate_zero, List.append_nil, List.nil_append, List.cons_append, unsl, backsl, List.foldl_cons, List.foldl_nil, flowD, if_true, if_false, Bool.not_true, Bool.not_false, Bool.false_eq_true, Nat.le_refl, Nat.reduceLeDiff, Nat.reduceLT, and_self, true_and, and_true, h]
theorem s_is_throw {k : Nat} {p : Th} {L : Nat} {w : Wd} : semT tbl (k + 2) 1 [thD p, .int L] w = .ok (.bl ((decide (1 ≤ p.1) && decide (p.1 ≤ 15)) && (decide (0 ≤ p.2) && decide (p.2 < L)))) [] w := by
  refine sem_eq (fn := f_is_throw) rfl rfl ?_
  have e : decide (p.2 ≤ (L : Int) - 1) = decide (p.2 < (L : Int)) := by congr 1; apply propext; omega
  simp only [f_is_throw, thD, ex_skip, ex_seq, ex_asg, ex_asgo, ex_par, ex_aug, ex_xpr, ex_ite, ex_ret, ex_retn, ex_rai, ex_fr, ex_whl, ev_var, ev_cst, ev_glb, ev_tup, ev_lst, ev_bin, ev_neg, ev_not, ev_and, ev_or, ev_ife, ev_cmp, ev_chn, ev_call, ev_prm, ev_idx, ev_slc, ev_rev, ev_isi, ev_mkt, ev_draw, ev_comp, evA_nil, evA_cons, evP_nil, evP_cons, evO_nil, evO_cons, evI_rng, evI_enu, evI_zip, evI_it, evG_elt, evG_for, bind_bind, bind_ok, bind_exc, bind_stuck, bind_ite, opt_some, ofRW_ok, ofRW_exc, wp_ok, cmp_le, cmp_ge, cmp_lt, cmp_gt, cmp_eq, cmp_ne, cmp_eqb, cmp_isb, cmp_nisb, cmp_isn, cmp_nis, is_int_int, is_int_bl, is_int_str, is_int_tup, is_int_lst, is_int_non, is_bool_int, is_bool_bl, is_bool_str, is_bool_tup, is_bool_lst, is_bool_non, is_tuple_int, is_tuple_bl, is_tuple_str, is_tuple_tup, is_tuple_lst, is_tuple_non, is_list_int, is_list_bl, is_list_str, is_list_tup, is_list_lst, is_list_non, is_str_int, is_str_bl, is_str_str, is_str_tup, is_str_lst, is_str_non, nn_int, nn_bl, nn_str, nn_tup, nn_lst, nn_non, itY_tup, it_lst, sq_tup, sq_lst, len_own, len_beat, len_row, iter_own, iter_beat, iter_row, seq_own, seq_beat, seq_row, isi_own, isi_beat, isi_row, list_own, list_row, sorted_own, isN_row, add_int, sub_int, len_tup, len_lst, tuple_lst, tuple_tup, list_lst, list_tup, stTg, List.getElem?_cons_zero, List.getElem?_cons_succ, List.set_cons_zero, List.set_cons_succ, Option.map_some, Option.bind_some, Prim.look, List.headD_cons, List.tail_cons, slots0, List.zipIdx_cons, List.zipIdx_nil, List.map_cons, List.map_nil, List.lookup_nil, List.replicate_succ, List.replicate_zero, List.append_nil, List.nil_append, List.cons_append, unsl, backsl, List.foldl_cons, List.foldl_nil, flowD, if_true, if_false, Bool.not_true, Bool.not_false, Bool.false_eq_true, Nat.le_refl, Nat.reduceLeDiff, Nat.reduceLT, and_self, true_and, and_true, List.length_cons, List.length_nil]
  simp [getI_tup (i := 0) (j := 0), getI_tup (i := 1) (j := 1), ex_skip, ex_seq, ex_asg, ex_asgo, ex_par, ex_aug, ex_xpr, ex_ite, ex_ret, ex_retn, ex_rai, ex_fr, ex_whl, ev_var, ev_cst, ev_glb, ev_tup, ev_lst, ev_bin, ev_neg, ev_not, ev_and, ev_or, ev_ife, ev_cmp, ev_chn, ev_call, ev_prm, ev_idx, ev_slc, ev_rev, ev_isi, ev_mkt, ev_draw, ev_comp, evA_nil, evA_cons, evP_nil, evP_cons, evO_nil, evO_cons, evI_rng, evI_enu, evI_zip, evI_it, evG_elt, evG_for, bind_bind, bind_ok, bind_exc, bind_stuck, bind_ite, opt_some, ofRW_ok, ofRW_exc, wp_ok, cmp_le, cmp_ge, cmp_lt, cmp_gt, cmp_eq, cmp_ne, cmp_eqb, cmp_isb, cmp_nisb, cmp_isn, cmp_nis, is_int_int, is_int_bl, is_int_str, is_int_tup, is_int_lst, is_int_non, is_bool_int, is_bool_bl, is_bool_str, is_bool_tup, is_bool_lst, is_bool_non, is_tuple_int, is_tuple_bl, is_tuple_str, is_tuple_tup, is_tuple_lst, is_tuple_non, is_list_int, is_list_bl, is_list_str, is_list_tup, is_list_lst, is_list_non, is_str_int, is_str_bl, is_str_str, is_str_tup, is_str_lst, is_str_non, nn_int, nn_bl, nn_str, nn_tup, nn_lst, nn_non, itY_tup, it_lst, sq_tup, sq_lst, len_own, len_beat, len_row, iter_own, iter_beat, iter_row, seq_own, seq_beat, seq_row, isi_own, isi_beat, isi_row, list_own, list_row, sorted_own, isN_row, add_int, sub_int, len_tup, len_lst, tuple_lst, tuple_tup, list_lst, list_tup, stTg, List.getElem?_cons_zero, List.getElem?_cons_succ, List.set_cons_zero, List.set_cons_succ, Option.map_some, Option.bind_some, Prim.look, List.headD_cons, List.tail_cons, slots0, List.zipIdx_cons, List.zipIdx_nil, List.map_cons, List.map_nil, List.lookup_nil, List.replicate_succ, List.replicate_zero, List.append_nil, List.nil_append, List.cons_append, unsl, backsl, List.foldl_cons, List.foldl_nil, flowD, if_true, if_false, Bool.not_true, Bool.not_false, Bool.false_eq_true, Nat.le_refl, Nat.reduceLeDiff, Nat.reduceLT, and_self, true_and, and_true, s_is_whole, e]
  by_cases h : 1 ≤ p.1 <;> by_cases h2 : p.1 ≤ 15 <;> simp [h, h2, ex_skip, ex_seq, ex_asg, ex_asgo, ex_par, ex_aug, ex_xpr, ex_ite, ex_ret, ex_retn, ex_rai, ex_fr, ex_whl, ev_var, ev_cst, ev_glb, ev_tup, ev_lst, ev_bin, ev_neg, ev_not, ev_and, ev_or, ev_ife, ev_cmp, ev_chn, ev_call, ev_prm, ev_idx, ev_slc, ev_rev, ev_isi, ev_mkt, ev_draw, ev_comp, evA_nil, evA_cons, evP_nil, evP_cons, evO_nil, evO_cons, evI_rng, evI_enu, evI_zip, evI_it, evG_elt, evG_for, bind_bind, bind_ok, bind_exc, bind_stuck, bind_ite, opt_some, ofRW_ok, ofRW_exc, wp_ok, cmp_le, cmp_ge, cmp_lt, cmp_gt, cmp_eq, cmp_ne, cmp_eqb, cmp_isb, cmp_nisb, cmp_isn, cmp_nis, is_int_int, is_int_bl, is_int_str, is_int_tup, is_int_lst, is_int_non, is_bool_int, is_bool_bl, is_bool_str, is_bool_tup, is_bool_lst, is_bool_non, is_tuple_int, is_tuple_bl, is_tuple_str, is_tuple_tup, is_tuple_lst, is_tuple_non, is_list_int, is_list_bl, is_list_str, is_list_tup, is_list_lst, is_list_non, is_str_int, is_str_bl, is_str_str, is_str_tup, is_str_lst, is_str_non, nn_int, nn_bl, nn_str, nn_tup, nn_lst, nn_non, itY_tup, it_lst, sq_tup, sq_lst, len_own, len_beat, len_row, iter_own, iter_beat, iter_row, seq_own, seq_beat, seq_row, isi_own, isi_beat, isi_row, list_own, list_row, sorted_own, isN_row, add_int, sub_int, len_tup, len_lst, tuple_lst, tuple_tup, list_lst, list_tup, stTg, List.getElem?_cons_zero, List.getElem?_cons_succ, List.set_cons_zero, List.set_cons_succ, Option.map_some, Option.bind_some, Prim.look, List.headD_cons, List.tail_cons, slots0, List.zipIdx_cons, List.zipIdx_nil, List.map_cons, List.map_nil, List.lookup_nil, List.replicate_succ, List.replicate_zero, List.append_nil, List.nil_append, List.cons_append, unsl, backsl, List.foldl_cons, List.foldl_nil, flowD, if_true, if_false, Bool.not_true, Bool.not_false, Bool.false_eq_true, Nat.le_refl, Nat.reduceLeDiff, Nat.reduceLT, and_self, true_and, and_true]
theorem s_is_beat {k L : Nat} {b : Bt} {w : Wd} (hw : b.length = L) (hr : ∀ o ∈ b, o.length ≤ 4) (hh : ∀ o ∈ b, ∀ p ∈ o, 1 ≤ p.1 ∧ p.1 ≤ 15) (hg : ∀ o ∈ b, ∀ p ∈ o, 0 ≤ p.2 ∧ p.2 < L) (hs : ∀ o ∈ b, ordT o = o) :
    semT tbl (k + 3) 2 [beatD b, .int L] w = .ok (.bl true) [] w := by
  refine sem_eq (fn := f_is_beat) rfl rfl ?_
  simp only [ex_skip, ex_seq, ex_asg, ex_asgo, ex_par, ex_aug, ex_xpr, ex_ite, ex_ret, ex_retn, ex_rai, ex_fr, ex_whl, ev_var, ev_cst, ev_glb, ev_tup, ev_lst, ev_bin, ev_neg, ev_not, ev_and, ev_or, ev_ife, ev_cmp, ev_chn, ev_call, ev_prm, ev_idx, ev_slc, ev_rev, ev_isi, ev_mkt, ev_draw, ev_comp, evA_nil, evA_cons, evP_nil, evP_cons, evO_nil, evO_cons, evI_rng, evI_enu, evI_zip, evI_it, evG_elt, evG_for, bind_bind, bind_ok, bind_exc, bind_stuck, bind_ite, opt_some, ofRW_ok, ofRW_exc, wp_ok, cmp_le, cmp_ge, cmp_lt, cmp_gt, cmp_eq, cmp_ne, cmp_eqb, cmp_isb, cmp_nisb, cmp_isn, cmp_nis, is_int_int, is_int_bl, is_int_str, is_int_tup, is_int_lst, is_int_non, is_bool_int, is_bool_bl, is_bool_str, is_bool_tup, is_bool_lst, is_bool_non, is_tuple_int, is_tuple_bl, is_tuple_str, is_tuple_tup, is_tuple_lst, is_tuple_non, is_list_int, is_list_bl, is_list_str, is_list_tup, is_list_lst, is_list_non, is_str_int, is_str_bl, is_str_str, is_str_tup, is_str_lst, is_str_non, nn_int, nn_bl, nn_str, nn_tup, nn_lst, nn_non, itY_tup, it_lst, sq_tup, sq_lst, len_own, len_beat, len_row, iter_own, iter_beat, iter_row, seq_own, seq_beat, seq_row, isi_own, isi_beat, isi_row, list_own, list_row, sorted_own, isN_row, add_int, sub_int, len_tup, len_lst, tuple_lst, tuple_tup, list_lst, list_tup, stTg, List.getElem?_cons_zero, List.getElem?_cons_succ, List.set_cons_zero, List.set_cons_succ, Option.map_some, Option.bind_some, Prim.look, List.headD_cons, List.tail_cons, slots0, List.zipIdx_cons, List.zipIdx_nil, List.map_cons, List.map_nil, List.lookup_nil, List.replicate_succ, List.replicate_zero, List.append_nil, List.nil_append, List.cons_append, unsl, backsl, List.foldl_cons, List.foldl_nil, flowD, if_true, if_false, Bool.not_true, Bool.not_false, Bool.false_eq_true, Nat.le_refl, Nat.reduceLeDiff, Nat.reduceLT, and_self, true_and, and_true, f_is_beat, hw, decide_true]
  refine wp_forB b ownD (fun _ s => ∃ x y, s = ⟨[.fz (beatD b), .fz (.int L), x, y], w⟩) ⟨_, _, rfl⟩ (fun pre o post s e ⟨x, y, es⟩ => ?_) fun s ⟨x, y, es⟩ => ?_
  · have ho : o ∈ b := by rw [e]; simp
    subst es
    have h4 := hr o ho
    simp only [ex_skip, ex_seq, ex_asg, ex_asgo, ex_par, ex_aug, ex_xpr, ex_ite, ex_ret, ex_retn, ex_rai, ex_fr, ex_whl, ev_var, ev_cst, ev_glb, ev_tup, ev_lst, ev_bin, ev_neg, ev_not, ev_and, ev_or, ev_ife, ev_cmp, ev_chn, ev_call, ev_prm, ev_idx, ev_slc, ev_rev, ev_isi, ev_mkt, ev_draw, ev_comp, evA_nil, evA_cons, evP_nil, evP_cons, evO_nil, evO_cons, evI_rng, evI_enu, evI_zip, evI_it, evG_elt, evG_for, bind_bind, bind_ok, bind_exc, bind_stuck, bind_ite, opt_some, ofRW_ok, ofRW_exc, wp_ok, cmp_le, cmp_ge, cmp_lt, cmp_gt, cmp_eq, cmp_ne, cmp_eqb, cmp_isb, cmp_nisb, cmp_isn, cmp_nis, is_int_int, is_int_bl, is_int_str, is_int_tup, is_int_lst, is_int_non, is_bool_int, is_bool_bl, is_bool_str, is_bool_tup, is_bool_lst, is_bool_non, is_tuple_int, is_tuple_bl, is_tuple_str, is_tuple_tup, is_tuple_lst, is_tuple_non, is_list_int, is_list_bl, is_list_str, is_list_tup, is_list_lst, is_list_non, is_str_int, is_str_bl, is_str_str, is_str_tup, is_str_lst, is_str_non, nn_int, nn_bl, nn_str, nn_tup, nn_lst, nn_non, itY_tup, it_lst, sq_tup, sq_lst, len_own, len_beat, len_row, iter_own, iter_beat, iter_row, seq_own, seq_beat, seq_row, isi_own, isi_beat, isi_row, list_own, list_row, sorted_own, isN_row, add_int, sub_int, len_tup, len_lst, tuple_lst, tuple_tup, list_lst, list_tup, stTg, List.getElem?_cons_zero, List.getElem?_cons_succ, List.set_cons_zero, List.set_cons_succ, Option.map_some, Option.bind_some, Prim.look, List.headD_cons, List.tail_cons, slots0, List.zipIdx_cons, List.zipIdx_nil, List.map_cons, List.map_nil, List.lookup_nil, List.replicate_succ, List.replicate_zero, List.append_nil, List.nil_append, List.cons_append, unsl, backsl, List.foldl_cons, List.foldl_nil, flowD, if_true, if_false, Bool.not_true, Bool.not_false, Bool.false_eq_true, Nat.le_refl, Nat.reduceLeDiff, Nat.reduceLT, and_self, true_and, and_true, loopF]
    rw [if_neg (by simp; omega)]
    refine wp_comp1 o thD (fun p => .bl true) (fun s => ∃ x, s = ⟨[.fz (beatD b), .fz (.int L), .fz (ownD o), x], w⟩) ⟨_, rfl⟩ (by unfold line; omega) (fun p hp acc s q hl => ?_) fun s q => ?_
    · obtain ⟨x, rfl⟩ := q
      have h1 := hh o ho p hp
      have h2 := hg o ho p hp
      simp only [ex_skip, ex_seq, ex_asg, ex_asgo, ex_par, ex_aug, ex_xpr, ex_ite, ex_ret, ex_retn, ex_rai, ex_fr, ex_whl, ev_var, ev_cst, ev_glb, ev_tup, ev_lst, ev_bin, ev_neg, ev_not, ev_and, ev_or, ev_ife, ev_cmp, ev_chn, ev_call, ev_prm, ev_idx, ev_slc, ev_rev, ev_isi, ev_mkt, ev_draw, ev_comp, evA_nil, evA_cons, evP_nil, evP_cons, evO_nil, evO_cons, evI_rng, evI_enu, evI_zip, evI_it, evG_elt, evG_for, bind_bind, bind_ok, bind_exc, bind_stuck, bind_ite, opt_some, ofRW_ok, ofRW_exc, wp_ok, cmp_le, cmp_ge, cmp_lt, cmp_gt, cmp_eq, cmp_ne, cmp_eqb, cmp_isb, cmp_nisb, cmp_isn, cmp_nis, is_int_int, is_int_bl, is_int_str, is_int_tup, is_int_lst, is_int_non, is_bool_int, is_bool_bl, is_bool_str, is_bool_tup, is_bool_lst, is_bool_non, is_tuple_int, is_tuple_bl, is_tuple_str, is_tuple_tup, is_tuple_lst, is_tuple_non, is_list_int, is_list_bl, is_list_str, is_list_tup, is_list_lst, is_list_non, is_str_int, is_str_bl, is_str_str, is_str_tup, is_str_lst, is_str_non, nn_int, nn_bl, nn_str, nn_tup, nn_lst, nn_non, itY_tup, it_lst, sq_tup, sq_lst, len_own, len_beat, len_row, iter_own, iter_beat, iter_row, seq_own, seq_beat, seq_row, isi_own, isi_beat, isi_row, list_own, list_row, sorted_own, isN_row, add_int, sub_int, len_tup, len_lst, tuple_lst, tuple_tup, list_lst, list_tup, stTg, List.getElem?_cons_zero, List.getElem?_cons_succ, List.set_cons_zero, List.set_cons_succ, Option.map_some, Option.bind_some, Prim.look, List.headD_cons, List.tail_cons, slots0, List.zipIdx_cons, List.zipIdx_nil, List.map_cons, List.map_nil, List.lookup_nil, List.replicate_succ, List.replicate_zero, List.append_nil, List.nil_append, List.cons_append, unsl, backsl, List.foldl_cons, List.foldl_nil, flowD, if_true, if_false, Bool.not_true, Bool.not_false, Bool.false_eq_true, Nat.le_refl, Nat.reduceLeDiff, Nat.reduceLT, and_self, true_and, and_true, compF, s_is_throw]
      simp [wp_ok, h1, h2, hl]
    · obtain ⟨x, rfl⟩ := q
      simp only [ex_skip, ex_seq, ex_asg, ex_asgo, ex_par, ex_aug, ex_xpr, ex_ite, ex_ret, ex_retn, ex_rai, ex_fr, ex_whl, ev_var, ev_cst, ev_glb, ev_tup, ev_lst, ev_bin, ev_neg, ev_not, ev_and, ev_or, ev_ife, ev_cmp, ev_chn, ev_call, ev_prm, ev_idx, ev_slc, ev_rev, ev_isi, ev_mkt, ev_draw, ev_comp, evA_nil, evA_cons, evP_nil, evP_cons, evO_nil, evO_cons, evI_rng, evI_enu, evI_zip, evI_it, evG_elt, evG_for, bind_bind, bind_ok, bind_exc, bind_stuck, bind_ite, opt_some, ofRW_ok, ofRW_exc, wp_ok, cmp_le, cmp_ge, cmp_lt, cmp_gt, cmp_eq, cmp_ne, cmp_eqb, cmp_isb, cmp_nisb, cmp_isn, cmp_nis, is_int_int, is_int_bl, is_int_str, is_int_tup, is_int_lst, is_int_non, is_bool_int, is_bool_bl, is_bool_str, is_bool_tup, is_bool_lst, is_bool_non, is_tuple_int, is_tuple_bl, is_tuple_str, is_tuple_tup, is_tuple_lst, is_tuple_non, is_list_int, is_list_bl, is_list_str, is_list_tup, is_list_lst, is_list_non, is_str_int, is_str_bl, is_str_str, is_str_tup, is_str_lst, is_str_non, nn_int, nn_bl, nn_str, nn_tup, nn_lst, nn_non, itY_tup, it_lst, sq_tup, sq_lst, len_own, len_beat, len_row, iter_own, iter_beat, iter_row, seq_own, seq_beat, seq_row, isi_own, isi_beat, isi_row, list_own, list_row, sorted_own, isN_row, add_int, sub_int, len_tup, len_lst, tuple_lst, tuple_tup, list_lst, list_tup, stTg, List.getElem?_cons_zero, List.getElem?_cons_succ, List.set_cons_zero, List.set_cons_succ, Option.map_some, Option.bind_some, Prim.look, List.headD_cons, List.tail_cons, slots0, List.zipIdx_cons, List.zipIdx_nil, List.map_cons, List.map_nil, List.lookup_nil, List.replicate_succ, List.replicate_zero, List.append_nil, List.nil_append, List.cons_append, unsl, backsl, List.foldl_cons, List.foldl_nil, flowD, if_true, if_false, Bool.not_true, Bool.not_false, Bool.false_eq_true, Nat.le_refl, Nat.reduceLeDiff, Nat.reduceLT, and_self, true_and, and_true, all_true, rev_sorted, hs o ho]
      rw [cmp_ne_self (n := 2) (Pl.lst (by intro x hx; obtain ⟨p, _, rfl⟩ := List.mem_map.mp hx; exact pl_th p)) (by decide)]
      simp only [ex_skip, ex_seq, ex_asg, ex_asgo, ex_par, ex_aug, ex_xpr, ex_ite, ex_ret, ex_retn, ex_rai, ex_fr, ex_whl, ev_var, ev_cst, ev_glb, ev_tup, ev_lst, ev_bin, ev_neg, ev_not, ev_and, ev_or, ev_ife, ev_cmp, ev_chn, ev_call, ev_prm, ev_idx, ev_slc, ev_rev, ev_isi, ev_mkt, ev_draw, ev_comp, evA_nil, evA_cons, evP_nil, evP_cons, evO_nil, evO_cons, evI_rng, evI_enu, evI_zip, evI_it, evG_elt, evG_for, bind_bind, bind_ok, bind_exc, bind_stuck, bind_ite, opt_some, ofRW_ok, ofRW_exc, wp_ok, cmp_le, cmp_ge, cmp_lt, cmp_gt, cmp_eq, cmp_ne, cmp_eqb, cmp_isb, cmp_nisb, cmp_isn, cmp_nis, is_int_int, is_int_bl, is_int_str, is_int_tup, is_int_lst, is_int_non, is_bool_int, is_bool_bl, is_bool_str, is_bool_tup, is_bool_lst, is_bool_non, is_tuple_int, is_tuple_bl, is_tuple_str, is_tuple_tup, is_tuple_lst, is_tuple_non, is_list_int, is_list_bl, is_list_str, is_list_tup, is_list_lst, is_list_non, is_str_int, is_str_bl, is_str_str, is_str_tup, is_str_lst, is_str_non, nn_int, nn_bl, nn_str, nn_tup, nn_lst, nn_non, itY_tup, it_lst, sq_tup, sq_lst, len_own, len_beat, len_row, iter_own, iter_beat, iter_row, seq_own, seq_beat, seq_row, isi_own, isi_beat, isi_row, list_own, list_row, sorted_own, isN_row, add_int, sub_int, len_tup, len_lst, tuple_lst, tuple_tup, list_lst, list_tup, stTg, List.getElem?_cons_zero, List.getElem?_cons_succ, List.set_cons_zero, List.set_cons_succ, Option.map_some, Option.bind_some, Prim.look, List.headD_cons, List.tail_cons, slots0, List.zipIdx_cons, List.zipIdx_nil, List.map_cons, List.map_nil, List.lookup_nil, List.replicate_succ, List.replicate_zero, List.append_nil, List.nil_append, List.cons_append, unsl, backsl, List.foldl_cons, List.foldl_nil, flowD, if_true, if_false, Bool.not_true, Bool.not_false, Bool.false_eq_true, Nat.le_refl, Nat.reduceLeDiff, Nat.reduceLT, and_self, true_and, and_true]
      exact ⟨_, _, rfl⟩
  · subst es
    simp [bind_ok, flowD, wp_ok]
theorem RowOk.first {L : Nat} {r : Rw'} (h : RowOk L r) : (r.getD 0 []).length = L := h.wide _ (getD_mem r [] h.n1)
theorem RowOk.beat {L : Nat} {r : Rw'} (h : RowOk L r) {t : Nat} (ht : t < r.length) : (r.getD t []).length = L := h.wide _ (getD_mem r [] ht)
theorem s_lines_of {k L : Nat} {r : Rw'} {w : Wd} (h : RowOk L r) : semT tbl (k + 1) 3 [rowD r] w = .ok (.int L) [] w := by
  refine sem_eq (fn := f_lines_of) rfl rfl ?_
  have e0 := row_at r h.n1 (x := 0) rfl
  have e1 := h.first
  have h1 := h.n1
  have h2 := h.n2
  have h3 := h.l1
  have h4 := h.l2
  simp only [ex_skip, ex_seq, ex_asg, ex_asgo, ex_par, ex_aug, ex_xpr, ex_ite, ex_ret, ex_retn, ex_rai, ex_fr, ex_whl, ev_var, ev_cst, ev_glb, ev_tup, ev_lst, ev_bin, ev_neg, ev_not, ev_and, ev_or, ev_ife, ev_cmp, ev_chn, ev_call, ev_prm, ev_idx, ev_slc, ev_rev, ev_isi, ev_mkt, ev_draw, ev_comp, evA_nil, evA_cons, evP_nil, evP_cons, evO_nil, evO_cons, evI_rng, evI_enu, evI_zip, evI_it, evG_elt, evG_for, bind_bind, bind_ok, bind_exc, bind_stuck, bind_ite, opt_some, ofRW_ok, ofRW_exc, wp_ok, cmp_le, cmp_ge, cmp_lt, cmp_gt, cmp_eq, cmp_ne, cmp_eqb, cmp_isb, cmp_nisb, cmp_isn, cmp_nis, is_int_int, is_int_bl, is_int_str, is_int_tup, is_int_lst, is_int_non, is_bool_int, is_bool_bl, is_bool_str, is_bool_tup, is_bool_lst, is_bool_non, is_tuple_int, is_tuple_bl, is_tuple_str, is_tuple_tup, is_tuple_lst, is_tuple_non, is_list_int, is_list_bl, is_list_str, is_list_tup, is_list_lst, is_list_non, is_str_int, is_str_bl, is_str_str, is_str_tup, is_str_lst, is_str_non, nn_int, nn_bl, nn_str, nn_tup, nn_lst, nn_non, itY_tup, it_lst, sq_tup, sq_lst, len_own, len_beat, len_row, iter_own, iter_beat, iter_row, seq_own, seq_beat, seq_row, isi_own, isi_beat, isi_row, list_own, list_row, sorted_own, isN_row, add_int, sub_int, len_tup, len_lst, tuple_lst, tuple_tup, list_lst, list_tup, stTg, List.getElem?_cons_zero, List.getElem?_cons_succ, List.set_cons_zero, List.set_cons_succ, Option.map_some, Option.bind_some, Prim.look, List.headD_cons, List.tail_cons, slots0, List.zipIdx_cons, List.zipIdx_nil, List.map_cons, List.map_nil, List.lookup_nil, List.replicate_succ, List.replicate_zero, List.append_nil, List.nil_append, List.cons_append, unsl, backsl, List.foldl_cons, List.foldl_nil, flowD, if_true, if_false, Bool.not_true, Bool.not_false, Bool.false_eq_true, Nat.le_refl, Nat.reduceLeDiff, Nat.reduceLT, and_self, true_and, and_true, f_lines_of, e0, e1, decide_eq_true (show (1 : Int) ≤ r.length by omega), decide_eq_true (show (r.length : Int) ≤ 24 by omega), decide_eq_true (show (1 : Int) ≤ L by omega), decide_eq_true (show (L : Int) ≤ 6 by omega)]
theorem s_lines_of_no {k : Nat} {d : List D} {w : Wd} : semT tbl (k + 1) 3 [.lst d] w = .ok (.int 0) [] w := by
  refine sem_eq (fn := f_lines_of) rfl rfl ?_
  simp only [ex_skip, ex_seq, ex_asg, ex_asgo, ex_par, ex_aug, ex_xpr, ex_ite, ex_ret, ex_retn, ex_rai, ex_fr, ex_whl, ev_var, ev_cst, ev_glb, ev_tup, ev_lst, ev_bin, ev_neg, ev_not, ev_and, ev_or, ev_ife, ev_cmp, ev_chn, ev_call, ev_prm, ev_idx, ev_slc, ev_rev, ev_isi, ev_mkt, ev_draw, ev_comp, evA_nil, evA_cons, evP_nil, evP_cons, evO_nil, evO_cons, evI_rng, evI_enu, evI_zip, evI_it, evG_elt, evG_for, bind_bind, bind_ok, bind_exc, bind_stuck, bind_ite, opt_some, ofRW_ok, ofRW_exc, wp_ok, cmp_le, cmp_ge, cmp_lt, cmp_gt, cmp_eq, cmp_ne, cmp_eqb, cmp_isb, cmp_nisb, cmp_isn, cmp_nis, is_int_int, is_int_bl, is_int_str, is_int_tup, is_int_lst, is_int_non, is_bool_int, is_bool_bl, is_bool_str, is_bool_tup, is_bool_lst, is_bool_non, is_tuple_int, is_tuple_bl, is_tuple_str, is_tuple_tup, is_tuple_lst, is_tuple_non, is_list_int, is_list_bl, is_list_str, is_list_tup, is_list_lst, is_list_non, is_str_int, is_str_bl, is_str_str, is_str_tup, is_str_lst, is_str_non, nn_int, nn_bl, nn_str, nn_tup, nn_lst, nn_non, itY_tup, it_lst, sq_tup, sq_lst, len_own, len_beat, len_row, iter_own, iter_beat, iter_row, seq_own, seq_beat, seq_row, isi_own, isi_beat, isi_row, list_own, list_row, sorted_own, isN_row, add_int, sub_int, len_tup, len_lst, tuple_lst, tuple_tup, list_lst, list_tup, stTg, List.getElem?_cons_zero, List.getElem?_cons_succ, List.set_cons_zero, List.set_cons_succ, Option.map_some, Option.bind_some, Prim.look, List.headD_cons, List.tail_cons, slots0, List.zipIdx_cons, List.zipIdx_nil, List.map_cons, List.map_nil, List.lookup_nil, List.replicate_succ, List.replicate_zero, List.append_nil, List.nil_append, List.cons_append, unsl, backsl, List.foldl_cons, List.foldl_nil, flowD, if_true, if_false, Bool.not_true, Bool.not_false, Bool.false_eq_true, Nat.le_refl, Nat.reduceLeDiff, Nat.reduceLT, and_self, true_and, and_true, f_lines_of]
theorem s_is_row_no {k : Nat} {d : List D} {w : Wd} : semT tbl (k + 2) 4 [.lst d] w = .ok (.bl false) [] w := by
  refine sem_eq (fn := f_is_row) rfl rfl ?_
  simp only [ex_skip, ex_seq, ex_asg, ex_asgo, ex_par, ex_aug, ex_xpr, ex_ite, ex_ret, ex_retn, ex_rai, ex_fr, ex_whl, ev_var, ev_cst, ev_glb, ev_tup, ev_lst, ev_bin, ev_neg, ev_not, ev_and, ev_or, ev_ife, ev_cmp, ev_chn, ev_call, ev_prm, ev_idx, ev_slc, ev_rev, ev_isi, ev_mkt, ev_draw, ev_comp, evA_nil, evA_cons, evP_nil, evP_cons, evO_nil, evO_cons, evI_rng, evI_enu, evI_zip, evI_it, evG_elt, evG_for, bind_bind, bind_ok, bind_exc, bind_stuck, bind_ite, opt_some, ofRW_ok, ofRW_exc, wp_ok, cmp_le, cmp_ge, cmp_lt, cmp_gt, cmp_eq, cmp_ne, cmp_eqb, cmp_isb, cmp_nisb, cmp_isn, cmp_nis, is_int_int, is_int_bl, is_int_str, is_int_tup, is_int_lst, is_int_non, is_bool_int, is_bool_bl, is_bool_str, is_bool_tup, is_bool_lst, is_bool_non, is_tuple_int, is_tuple_bl, is_tuple_str, is_tuple_tup, is_tuple_lst, is_tuple_non, is_list_int, is_list_bl, is_list_str, is_list_tup, is_list_lst, is_list_non, is_str_int, is_str_bl, is_str_str, is_str_tup, is_str_lst, is_str_non, nn_int, nn_bl, nn_str, nn_tup, nn_lst, nn_non, itY_tup, it_lst, sq_tup, sq_lst, len_own, len_beat, len_row, iter_own, iter_beat, iter_row, seq_own, seq_beat, seq_row, isi_own, isi_beat, isi_row, list_own, list_row, sorted_own, isN_row, add_int, sub_int, len_tup, len_lst, tuple_lst, tuple_tup, list_lst, list_tup, stTg, List.getElem?_cons_zero, List.getElem?_cons_succ, List.set_cons_zero, List.set_cons_succ, Option.map_some, Option.bind_some, Prim.look, List.headD_cons, List.tail_cons, slots0, List.zipIdx_cons, List.zipIdx_nil, List.map_cons, List.map_nil, List.lookup_nil, List.replicate_succ, List.replicate_zero, List.append_nil, List.nil_append, List.cons_append, unsl, backsl, List.foldl_cons, List.foldl_nil, flowD, if_true, if_false, Bool.not_true, Bool.not_false, Bool.false_eq_true, Nat.le_refl, Nat.reduceLeDiff, Nat.reduceLT, and_self, true_and, and_true, f_is_row, s_lines_of_no]
  simp [wp_ok]
theorem s_is_row {k L : Nat} {r : Rw'} {w : Wd} (h : RowOk L r) : semT tbl (k + 4) 4 [rowD r] w = .ok (.bl true) [] w := by
  refine sem_eq (fn := f_is_row) rfl rfl ?_
  have h1 := h.l1
  have h2 := h.n2
  simp only [ex_skip, ex_seq, ex_asg, ex_asgo, ex_par, ex_aug, ex_xpr, ex_ite, ex_ret, ex_retn, ex_rai, ex_fr, ex_whl, ev_var, ev_cst, ev_glb, ev_tup, ev_lst, ev_bin, ev_neg, ev_not, ev_and, ev_or, ev_ife, ev_cmp, ev_chn, ev_call, ev_prm, ev_idx, ev_slc, ev_rev, ev_isi, ev_mkt, ev_draw, ev_comp, evA_nil, evA_cons, evP_nil, evP_cons, evO_nil, evO_cons, evI_rng, evI_enu, evI_zip, evI_it, evG_elt, evG_for, bind_bind, bind_ok, bind_exc, bind_stuck, bind_ite, opt_some, ofRW_ok, ofRW_exc, wp_ok, cmp_le, cmp_ge, cmp_lt, cmp_gt, cmp_eq, cmp_ne, cmp_eqb, cmp_isb, cmp_nisb, cmp_isn, cmp_nis, is_int_int, is_int_bl, is_int_str, is_int_tup, is_int_lst, is_int_non, is_bool_int, is_bool_bl, is_bool_str, is_bool_tup, is_bool_lst, is_bool_non, is_tuple_int, is_tuple_bl, is_tuple_str, is_tuple_tup, is_tuple_lst, is_tuple_non, is_list_int, is_list_bl, is_list_str, is_list_tup, is_list_lst, is_list_non, is_str_int, is_str_bl, is_str_str, is_str_tup, is_str_lst, is_str_non, nn_int, nn_bl, nn_str, nn_tup, nn_lst, nn_non, itY_tup, it_lst, sq_tup, sq_lst, len_own, len_beat, len_row, iter_own, iter_beat, iter_row, seq_own, seq_beat, seq_row, isi_own, isi_beat, isi_row, list_own, list_row, sorted_own, isN_row, add_int, sub_int, len_tup, len_lst, tuple_lst, tuple_tup, list_lst, list_tup, stTg, List.getElem?_cons_zero, List.getElem?_cons_succ, List.set_cons_zero, List.set_cons_succ, Option.map_some, Option.bind_some, Prim.look, List.headD_cons, List.tail_cons, slots0, List.zipIdx_cons, List.zipIdx_nil, List.map_cons, List.map_nil, List.lookup_nil, List.replicate_succ, List.replicate_zero, List.append_nil, List.nil_append, List.cons_append, unsl, backsl, List.foldl_cons, List.foldl_nil, flowD, if_true, if_false, Bool.not_true, Bool.not_false, Bool.false_eq_true, Nat.le_refl, Nat.reduceLeDiff, Nat.reduceLT, and_self, true_and, and_true, f_is_row, s_lines_of h, show decide ((0 : Int) < L) = true from decide_eq_true (by omega)]
  refine wp_comp1 r beatD (fun _ => .bl true) (fun s => ∃ x, s = ⟨[.fz (rowD r), .fz (.int L), x], w⟩) ⟨_, rfl⟩ (by unfold line; omega) (fun b hb acc s q hl => ?_) fun s q => ?_
  · obtain ⟨x, rfl⟩ := q
    simp only [ex_skip, ex_seq, ex_asg, ex_asgo, ex_par, ex_aug, ex_xpr, ex_ite, ex_ret, ex_retn, ex_rai, ex_fr, ex_whl, ev_var, ev_cst, ev_glb, ev_tup, ev_lst, ev_bin, ev_neg, ev_not, ev_and, ev_or, ev_ife, ev_cmp, ev_chn, ev_call, ev_prm, ev_idx, ev_slc, ev_rev, ev_isi, ev_mkt, ev_draw, ev_comp, evA_nil, evA_cons, evP_nil, evP_cons, evO_nil, evO_cons, evI_rng, evI_enu, evI_zip, evI_it, evG_elt, evG_for, bind_bind, bind_ok, bind_exc, bind_stuck, bind_ite, opt_some, ofRW_ok, ofRW_exc, wp_ok, cmp_le, cmp_ge, cmp_lt, cmp_gt, cmp_eq, cmp_ne, cmp_eqb, cmp_isb, cmp_nisb, cmp_isn, cmp_nis, is_int_int, is_int_bl, is_int_str, is_int_tup, is_int_lst, is_int_non, is_bool_int, is_bool_bl, is_bool_str, is_bool_tup, is_bool_lst, is_bool_non, is_tuple_int, is_tuple_bl, is_tuple_str, is_tuple_tup, is_tuple_lst, is_tuple_non, is_list_int, is_list_bl, is_list_str, is_list_tup, is_list_lst, is_list_non, is_str_int, is_str_bl, is_str_str, is_str_tup, is_str_lst, is_str_non, nn_int, nn_bl, nn_str, nn_tup, nn_lst, nn_non, itY_tup, it_lst, sq_tup, sq_lst, len_own, len_beat, len_row, iter_own, iter_beat, iter_row, seq_own, seq_beat, seq_row, isi_own, isi_beat, isi_row, list_own, list_row, sorted_own, isN_row, add_int, sub_int, len_tup, len_lst, tuple_lst, tuple_tup, list_lst, list_tup, stTg, List.getElem?_cons_zero, List.getElem?_cons_succ, List.set_cons_zero, List.set_cons_succ, Option.map_some, Option.bind_some, Prim.look, List.headD_cons, List.tail_cons, slots0, List.zipIdx_cons, List.zipIdx_nil, List.map_cons, List.map_nil, List.lookup_nil, List.replicate_succ, List.replicate_zero, List.append_nil, List.nil_append, List.cons_append, unsl, backsl, List.foldl_cons, List.foldl_nil, flowD, if_true, if_false, Bool.not_true, Bool.not_false, Bool.false_eq_true, Nat.le_refl, Nat.reduceLeDiff, Nat.reduceLT, and_self, true_and, and_true, compF, s_is_beat (h.wide b hb) (h.room b hb) (h.high b hb) (h.goal b hb) (h.srt b hb)]
    simp [hl, wp_ok]
  · obtain ⟨x, rfl⟩ := q
    simp only [ex_skip, ex_seq, ex_asg, ex_asgo, ex_par, ex_aug, ex_xpr, ex_ite, ex_ret, ex_retn, ex_rai, ex_fr, ex_whl, ev_var, ev_cst, ev_glb, ev_tup, ev_lst, ev_bin, ev_neg, ev_not, ev_and, ev_or, ev_ife, ev_cmp, ev_chn, ev_call, ev_prm, ev_idx, ev_slc, ev_rev, ev_isi, ev_mkt, ev_draw, ev_comp, evA_nil, evA_cons, evP_nil, evP_cons, evO_nil, evO_cons, evI_rng, evI_enu, evI_zip, evI_it, evG_elt, evG_for, bind_bind, bind_ok, bind_exc, bind_stuck, bind_ite, opt_some, ofRW_ok, ofRW_exc, wp_ok, cmp_le, cmp_ge, cmp_lt, cmp_gt, cmp_eq, cmp_ne, cmp_eqb, cmp_isb, cmp_nisb, cmp_isn, cmp_nis, is_int_int, is_int_bl, is_int_str, is_int_tup, is_int_lst, is_int_non, is_bool_int, is_bool_bl, is_bool_str, is_bool_tup, is_bool_lst, is_bool_non, is_tuple_int, is_tuple_bl, is_tuple_str, is_tuple_tup, is_tuple_lst, is_tuple_non, is_list_int, is_list_bl, is_list_str, is_list_tup, is_list_lst, is_list_non, is_str_int, is_str_bl, is_str_str, is_str_tup, is_str_lst, is_str_non, nn_int, nn_bl, nn_str, nn_tup, nn_lst, nn_non, itY_tup, it_lst, sq_tup, sq_lst, len_own, len_beat, len_row, iter_own, iter_beat, iter_row, seq_own, seq_beat, seq_row, isi_own, isi_beat, isi_row, list_own, list_row, sorted_own, isN_row, add_int, sub_int, len_tup, len_lst, tuple_lst, tuple_tup, list_lst, list_tup, stTg, List.getElem?_cons_zero, List.getElem?_cons_succ, List.set_cons_zero, List.set_cons_succ, Option.map_some, Option.bind_some, Prim.look, List.headD_cons, List.tail_cons, slots0, List.zipIdx_cons, List.zipIdx_nil, List.map_cons, List.map_nil, List.lookup_nil, List.replicate_succ, List.replicate_zero, List.append_nil, List.nil_append, List.cons_append, unsl, backsl, List.foldl_cons, List.foldl_nil, flowD, if_true, if_false, Bool.not_true, Bool.not_false, Bool.false_eq_true, Nat.le_refl, Nat.reduceLeDiff, Nat.reduceLT, and_self, true_and, and_true, all_true]
theorem s_look_row {k L : Nat} {r : Rw'} {w : Wd} (h : RowOk L r) : semT tbl (k + 5) 5 [rowD r] w = .ok .non [] w := by
  refine sem_eq (fn := f_look_row) rfl rfl ?_
  simp only [ex_skip, ex_seq, ex_asg, ex_asgo, ex_par, ex_aug, ex_xpr, ex_ite, ex_ret, ex_retn, ex_rai, ex_fr, ex_whl, ev_var, ev_cst, ev_glb, ev_tup, ev_lst, ev_bin, ev_neg, ev_not, ev_and, ev_or, ev_ife, ev_cmp, ev_chn, ev_call, ev_prm, ev_idx, ev_slc, ev_rev, ev_isi, ev_mkt, ev_draw, ev_comp, evA_nil, evA_cons, evP_nil, evP_cons, evO_nil, evO_cons, evI_rng, evI_enu, evI_zip, evI_it, evG_elt, evG_for, bind_bind, bind_ok, bind_exc, bind_stuck, bind_ite, opt_some, ofRW_ok, ofRW_exc, wp_ok, cmp_le, cmp_ge, cmp_lt, cmp_gt, cmp_eq, cmp_ne, cmp_eqb, cmp_isb, cmp_nisb, cmp_isn, cmp_nis, is_int_int, is_int_bl, is_int_str, is_int_tup, is_int_lst, is_int_non, is_bool_int, is_bool_bl, is_bool_str, is_bool_tup, is_bool_lst, is_bool_non, is_tuple_int, is_tuple_bl, is_tuple_str, is_tuple_tup, is_tuple_lst, is_tuple_non, is_list_int, is_list_bl, is_list_str, is_list_tup, is_list_lst, is_list_non, is_str_int, is_str_bl, is_str_str, is_str_tup, is_str_lst, is_str_non, nn_int, nn_bl, nn_str, nn_tup, nn_lst, nn_non, itY_tup, it_lst, sq_tup, sq_lst, len_own, len_beat, len_row, iter_own, iter_beat, iter_row, seq_own, seq_beat, seq_row, isi_own, isi_beat, isi_row, list_own, list_row, sorted_own, isN_row, add_int, sub_int, len_tup, len_lst, tuple_lst, tuple_tup, list_lst, list_tup, stTg, List.getElem?_cons_zero, List.getElem?_cons_succ, List.set_cons_zero, List.set_cons_succ, Option.map_some, Option.bind_some, Prim.look, List.headD_cons, List.tail_cons, slots0, List.zipIdx_cons, List.zipIdx_nil, List.map_cons, List.map_nil, List.lookup_nil, List.replicate_succ, List.replicate_zero, List.append_nil, List.nil_append, List.cons_append, unsl, backsl, List.foldl_cons, List.foldl_nil, flowD, if_true, if_false, Bool.not_true, Bool.not_false, Bool.false_eq_true, Nat.le_refl, Nat.reduceLeDiff, Nat.reduceLT, and_self, true_and, and_true, f_look_row, s_is_row h]
def landO (n t : Nat) (tb : Tb) (o : List Th) : Tb := o.foldl (fun tb p => bump tb (toT n t p) p.2.toNat) tb
def landB (n t : Nat) (tb : Tb) (b : Bt) : Tb := b.foldl (landO n t) tb
def landT (L : Nat) (r : Rw') : Tb := (List.range r.length).foldl (fun tb t => landB r.length t tb (r.getD t [])) (zero r.length L)
theorem landO_shape {n L t : Nat} : ∀ (o : List Th) {tb : Tb}, Shape n L tb → Shape n L (landO n t tb o)
  | [], _, h => h
  | p :: o, _, h => landO_shape o (h.bump _ _)
theorem landB_shape {n L t : Nat} : ∀ (b : Bt) {tb : Tb}, Shape n L tb → Shape n L (landB n t tb b)
  | [], _, h => h
  | o :: b, _, h => landB_shape b (landO_shape o h)
theorem landR_shape {n L : Nat} (r : Rw') : ∀ (ts : List Nat) {tb : Tb}, Shape n L tb → Shape n L (ts.foldl (fun tb t => landB n t tb (r.getD t [])) tb)
  | [], _, h => h
  | t :: ts, _, h => landR_shape r ts (landB_shape _ h)
theorem landT_shape (L : Nat) (r : Rw') : Shape r.length L (landT L r) := landR_shape r _ (shape_zero _ _)
theorem toT_lt {n t : Nat} {p : Th} (hn : 0 < n) : toT n t p < n := by
  unfold toT
  have h1 := Int.emod_nonneg ((t : Int) + p.1) (by omega : (n : Int) ≠ 0)
  have h2 := Int.emod_lt_of_pos ((t : Int) + p.1) (by omega : 0 < (n : Int))
  omega
theorem toT_eq {n t : Nat} {p : Th} (hn : 0 < n) : ((t : Int) + p.1) % (n : Int) = (toT n t p : Int) := by
  unfold toT
  have h1 := Int.emod_nonneg ((t : Int) + p.1) (by omega : (n : Int) ≠ 0)
  omega
theorem zero_made (n L : Nat) {A : Type} {xs : List A} (h : xs.length = n) : (xs.map fun _ => D.lst (List.replicate L (.int 0))) = (zero n L).map fun l => .lst (numsD l) := by
  subst h
  unfold zero numsD
  rw [List.map_const', List.map_replicate, List.map_replicate]
theorem tb_told {n L : Nat} {t : Tb} (h : Shape n L t) (hL : L ≤ 1000) : ∀ l ∈ t, l.length = L := fun l hl => by
  obtain ⟨i, hi, rfl⟩ := List.getElem_of_mem hl
  have := h.wid i (by rw [← h.len]; exact hi)
  rw [getD_get _ _ hi] at this
  exact this
theorem s_landed {k L : Nat} {r : Rw'} {w : Wd} (h : RowOk L r) : semT tbl (k + 1) 7 [rowD r] w = .ok (tbT (landT L r)) [] w := by
  refine sem_eq (fn := f_landed) rfl rfl ?_
  have h1 := h.n1
  have h2 := h.n2
  have h3 := h.l1
  have h4 := h.l2
  have e0 := row_at r h.n1 (x := 0) rfl
  have e1 := h.first
  have hrd : (2 ≤ dep (rdOf tbl) (.comp [2] (.gfor (.v 2) (.iit (.var 0)) (.cst (.bl true)) (.gelt (.bin .mul (.lst (.cons (.cst (.int 0)) .nil)) (.prm .len (.cons (.idx (.var 0) (.cst (.int 0))) .nil)))))) ∧ 0 < 2) := by simp [dep]
  simp only [ex_skip, ex_seq, ex_asg, ex_asgo, ex_par, ex_aug, ex_xpr, ex_ite, ex_ret, ex_retn, ex_rai, ex_fr, ex_whl, ev_var, ev_cst, ev_glb, ev_tup, ev_lst, ev_bin, ev_neg, ev_not, ev_and, ev_or, ev_ife, ev_cmp, ev_chn, ev_call, ev_prm, ev_idx, ev_slc, ev_rev, ev_isi, ev_mkt, ev_draw, ev_comp, evA_nil, evA_cons, evP_nil, evP_cons, evO_nil, evO_cons, evI_rng, evI_enu, evI_zip, evI_it, evG_elt, evG_for, bind_bind, bind_ok, bind_exc, bind_stuck, bind_ite, opt_some, ofRW_ok, ofRW_exc, wp_ok, cmp_le, cmp_ge, cmp_lt, cmp_gt, cmp_eq, cmp_ne, cmp_eqb, cmp_isb, cmp_nisb, cmp_isn, cmp_nis, is_int_int, is_int_bl, is_int_str, is_int_tup, is_int_lst, is_int_non, is_bool_int, is_bool_bl, is_bool_str, is_bool_tup, is_bool_lst, is_bool_non, is_tuple_int, is_tuple_bl, is_tuple_str, is_tuple_tup, is_tuple_lst, is_tuple_non, is_list_int, is_list_bl, is_list_str, is_list_tup, is_list_lst, is_list_non, is_str_int, is_str_bl, is_str_str, is_str_tup, is_str_lst, is_str_non, nn_int, nn_bl, nn_str, nn_tup, nn_lst, nn_non, itY_tup, it_lst, sq_tup, sq_lst, len_own, len_beat, len_row, iter_own, iter_beat, iter_row, seq_own, seq_beat, seq_row, isi_own, isi_beat, isi_row, list_own, list_row, sorted_own, isN_row, add_int, sub_int, len_tup, len_lst, tuple_lst, tuple_tup, list_lst, list_tup, stTg, List.getElem?_cons_zero, List.getElem?_cons_succ, List.set_cons_zero, List.set_cons_succ, Option.map_some, Option.bind_some, Prim.look, List.headD_cons, List.tail_cons, slots0, List.zipIdx_cons, List.zipIdx_nil, List.map_cons, List.map_nil, List.lookup_nil, List.replicate_succ, List.replicate_zero, List.append_nil, List.nil_append, List.cons_append, unsl, backsl, List.foldl_cons, List.foldl_nil, flowD, if_true, if_false, Bool.not_true, Bool.not_false, Bool.false_eq_true, Nat.le_refl, Nat.reduceLeDiff, Nat.reduceLT, and_self, true_and, and_true, f_landed, hrd]
  refine wp_comp1 r beatD (fun _ => .lst (List.replicate L (.int 0))) (fun s => ∃ x, s = ⟨[.fz (rowD r), .un, x, .un, .un, .un, .un, .un], w⟩) ⟨_, rfl⟩ (by unfold line; omega) (fun b hb acc s q hl => ?_) fun s q => ?_
  · obtain ⟨x, rfl⟩ := q
    simp only [ex_skip, ex_seq, ex_asg, ex_asgo, ex_par, ex_aug, ex_xpr, ex_ite, ex_ret, ex_retn, ex_rai, ex_fr, ex_whl, ev_var, ev_cst, ev_glb, ev_tup, ev_lst, ev_bin, ev_neg, ev_not, ev_and, ev_or, ev_ife, ev_cmp, ev_chn, ev_call, ev_prm, ev_idx, ev_slc, ev_rev, ev_isi, ev_mkt, ev_draw, ev_comp, evA_nil, evA_cons, evP_nil, evP_cons, evO_nil, evO_cons, evI_rng, evI_enu, evI_zip, evI_it, evG_elt, evG_for, bind_bind, bind_ok, bind_exc, bind_stuck, bind_ite, opt_some, ofRW_ok, ofRW_exc, wp_ok, cmp_le, cmp_ge, cmp_lt, cmp_gt, cmp_eq, cmp_ne, cmp_eqb, cmp_isb, cmp_nisb, cmp_isn, cmp_nis, is_int_int, is_int_bl, is_int_str, is_int_tup, is_int_lst, is_int_non, is_bool_int, is_bool_bl, is_bool_str, is_bool_tup, is_bool_lst, is_bool_non, is_tuple_int, is_tuple_bl, is_tuple_str, is_tuple_tup, is_tuple_lst, is_tuple_non, is_list_int, is_list_bl, is_list_str, is_list_tup, is_list_lst, is_list_non, is_str_int, is_str_bl, is_str_str, is_str_tup, is_str_lst, is_str_non, nn_int, nn_bl, nn_str, nn_tup, nn_lst, nn_non, itY_tup, it_lst, sq_tup, sq_lst, len_own, len_beat, len_row, iter_own, iter_beat, iter_row, seq_own, seq_beat, seq_row, isi_own, isi_beat, isi_row, list_own, list_row, sorted_own, isN_row, add_int, sub_int, len_tup, len_lst, tuple_lst, tuple_tup, list_lst, list_tup, stTg, List.getElem?_cons_zero, List.getElem?_cons_succ, List.set_cons_zero, List.set_cons_succ, Option.map_some, Option.bind_some, Prim.look, List.headD_cons, List.tail_cons, slots0, List.zipIdx_cons, List.zipIdx_nil, List.map_cons, List.map_nil, List.lookup_nil, List.replicate_succ, List.replicate_zero, List.append_nil, List.nil_append, List.cons_append, unsl, backsl, List.foldl_cons, List.foldl_nil, flowD, if_true, if_false, Bool.not_true, Bool.not_false, Bool.false_eq_true, Nat.le_refl, Nat.reduceLeDiff, Nat.reduceLT, and_self, true_and, and_true, compF, e0, e1]
    rw [rep_lst (by omega) (by omega) (by unfold line; simp; omega), repL_one]
    simp only [ex_skip, ex_seq, ex_asg, ex_asgo, ex_par, ex_aug, ex_xpr, ex_ite, ex_ret, ex_retn, ex_rai, ex_fr, ex_whl, ev_var, ev_cst, ev_glb, ev_tup, ev_lst, ev_bin, ev_neg, ev_not, ev_and, ev_or, ev_ife, ev_cmp, ev_chn, ev_call, ev_prm, ev_idx, ev_slc, ev_rev, ev_isi, ev_mkt, ev_draw, ev_comp, evA_nil, evA_cons, evP_nil, evP_cons, evO_nil, evO_cons, evI_rng, evI_enu, evI_zip, evI_it, evG_elt, evG_for, bind_bind, bind_ok, bind_exc, bind_stuck, bind_ite, opt_some, ofRW_ok, ofRW_exc, wp_ok, cmp_le, cmp_ge, cmp_lt, cmp_gt, cmp_eq, cmp_ne, cmp_eqb, cmp_isb, cmp_nisb, cmp_isn, cmp_nis, is_int_int, is_int_bl, is_int_str, is_int_tup, is_int_lst, is_int_non, is_bool_int, is_bool_bl, is_bool_str, is_bool_tup, is_bool_lst, is_bool_non, is_tuple_int, is_tuple_bl, is_tuple_str, is_tuple_tup, is_tuple_lst, is_tuple_non, is_list_int, is_list_bl, is_list_str, is_list_tup, is_list_lst, is_list_non, is_str_int, is_str_bl, is_str_str, is_str_tup, is_str_lst, is_str_non, nn_int, nn_bl, nn_str, nn_tup, nn_lst, nn_non, itY_tup, it_lst, sq_tup, sq_lst, len_own, len_beat, len_row, iter_own, iter_beat, iter_row, seq_own, seq_beat, seq_row, isi_own, isi_beat, isi_row, list_own, list_row, sorted_own, isN_row, add_int, sub_int, len_tup, len_lst, tuple_lst, tuple_tup, list_lst, list_tup, stTg, List.getElem?_cons_zero, List.getElem?_cons_succ, List.set_cons_zero, List.set_cons_succ, Option.map_some, Option.bind_some, Prim.look, List.headD_cons, List.tail_cons, slots0, List.zipIdx_cons, List.zipIdx_nil, List.map_cons, List.map_nil, List.lookup_nil, List.replicate_succ, List.replicate_zero, List.append_nil, List.nil_append, List.cons_append, unsl, backsl, List.foldl_cons, List.foldl_nil, flowD, if_true, if_false, Bool.not_true, Bool.not_false, Bool.false_eq_true, Nat.le_refl, Nat.reduceLeDiff, Nat.reduceLT, and_self, true_and, and_true]
    simp [hl, wp_ok]
  · obtain ⟨x, rfl⟩ := q
    simp only [ex_skip, ex_seq, ex_asg, ex_asgo, ex_par, ex_aug, ex_xpr, ex_ite, ex_ret, ex_retn, ex_rai, ex_fr, ex_whl, ev_var, ev_cst, ev_glb, ev_tup, ev_lst, ev_bin, ev_neg, ev_not, ev_and, ev_or, ev_ife, ev_cmp, ev_chn, ev_call, ev_prm, ev_idx, ev_slc, ev_rev, ev_isi, ev_mkt, ev_draw, ev_comp, evA_nil, evA_cons, evP_nil, evP_cons, evO_nil, evO_cons, evI_rng, evI_enu, evI_zip, evI_it, evG_elt, evG_for, bind_bind, bind_ok, bind_exc, bind_stuck, bind_ite, opt_some, ofRW_ok, ofRW_exc, wp_ok, cmp_le, cmp_ge, cmp_lt, cmp_gt, cmp_eq, cmp_ne, cmp_eqb, cmp_isb, cmp_nisb, cmp_isn, cmp_nis, is_int_int, is_int_bl, is_int_str, is_int_tup, is_int_lst, is_int_non, is_bool_int, is_bool_bl, is_bool_str, is_bool_tup, is_bool_lst, is_bool_non, is_tuple_int, is_tuple_bl, is_tuple_str, is_tuple_tup, is_tuple_lst, is_tuple_non, is_list_int, is_list_bl, is_list_str, is_list_tup, is_list_lst, is_list_non, is_str_int, is_str_bl, is_str_str, is_str_tup, is_str_lst, is_str_non, nn_int, nn_bl, nn_str, nn_tup, nn_lst, nn_non, itY_tup, it_lst, sq_tup, sq_lst, len_own, len_beat, len_row, iter_own, iter_beat, iter_row, seq_own, seq_beat, seq_row, isi_own, isi_beat, isi_row, list_own, list_row, sorted_own, isN_row, add_int, sub_int, len_tup, len_lst, tuple_lst, tuple_tup, list_lst, list_tup, stTg, List.getElem?_cons_zero, List.getElem?_cons_succ, List.set_cons_zero, List.set_cons_succ, Option.map_some, Option.bind_some, Prim.look, List.headD_cons, List.tail_cons, slots0, List.zipIdx_cons, List.zipIdx_nil, List.map_cons, List.map_nil, List.lookup_nil, List.replicate_succ, List.replicate_zero, List.append_nil, List.nil_append, List.cons_append, unsl, backsl, List.foldl_cons, List.foldl_nil, flowD, if_true, if_false, Bool.not_true, Bool.not_false, Bool.false_eq_true, Nat.le_refl, Nat.reduceLeDiff, Nat.reduceLT, and_self, true_and, and_true, zero_made r.length L (xs := r) rfl, enumL_rng []]
    refine wp_forB (List.range r.length) _ (fun ts s => ∃ tb a b c d e, tb = ts.foldl (fun tb t => landB r.length t tb (r.getD t [])) (zero r.length L) ∧ s = ⟨[.fz (rowD r), .ow 2 (tbD tb), a, b, c, d, e, .un], w⟩) ⟨_, _, _, _, _, _, rfl, rfl⟩ (fun pre t post s e q => ?_) fun s q => ?_
    · obtain ⟨tb, a, b, c, d, e', htb, rfl⟩ := q
      obtain ⟨_, ht⟩ := range_split e
      have sh : Shape r.length L tb := htb ▸ landR_shape r pre (shape_zero _ _)
      rw [List.foldl_append, List.foldl_cons, List.foldl_nil, ← htb]
      simp only [ex_skip, ex_seq, ex_asg, ex_asgo, ex_par, ex_aug, ex_xpr, ex_ite, ex_ret, ex_retn, ex_rai, ex_fr, ex_whl, ev_var, ev_cst, ev_glb, ev_tup, ev_lst, ev_bin, ev_neg, ev_not, ev_and, ev_or, ev_ife, ev_cmp, ev_chn, ev_call, ev_prm, ev_idx, ev_slc, ev_rev, ev_isi, ev_mkt, ev_draw, ev_comp, evA_nil, evA_cons, evP_nil, evP_cons, evO_nil, evO_cons, evI_rng, evI_enu, evI_zip, evI_it, evG_elt, evG_for, bind_bind, bind_ok, bind_exc, bind_stuck, bind_ite, opt_some, ofRW_ok, ofRW_exc, wp_ok, cmp_le, cmp_ge, cmp_lt, cmp_gt, cmp_eq, cmp_ne, cmp_eqb, cmp_isb, cmp_nisb, cmp_isn, cmp_nis, is_int_int, is_int_bl, is_int_str, is_int_tup, is_int_lst, is_int_non, is_bool_int, is_bool_bl, is_bool_str, is_bool_tup, is_bool_lst, is_bool_non, is_tuple_int, is_tuple_bl, is_tuple_str, is_tuple_tup, is_tuple_lst, is_tuple_non, is_list_int, is_list_bl, is_list_str, is_list_tup, is_list_lst, is_list_non, is_str_int, is_str_bl, is_str_str, is_str_tup, is_str_lst, is_str_non, nn_int, nn_bl, nn_str, nn_tup, nn_lst, nn_non, itY_tup, it_lst, sq_tup, sq_lst, len_own, len_beat, len_row, iter_own, iter_beat, iter_row, seq_own, seq_beat, seq_row, isi_own, isi_beat, isi_row, list_own, list_row, sorted_own, isN_row, add_int, sub_int, len_tup, len_lst, tuple_lst, tuple_tup, list_lst, list_tup, stTg, List.getElem?_cons_zero, List.getElem?_cons_succ, List.set_cons_zero, List.set_cons_succ, Option.map_some, Option.bind_some, Prim.look, List.headD_cons, List.tail_cons, slots0, List.zipIdx_cons, List.zipIdx_nil, List.map_cons, List.map_nil, List.lookup_nil, List.replicate_succ, List.replicate_zero, List.append_nil, List.nil_append, List.cons_append, unsl, backsl, List.foldl_cons, List.foldl_nil, flowD, if_true, if_false, Bool.not_true, Bool.not_false, Bool.false_eq_true, Nat.le_refl, Nat.reduceLeDiff, Nat.reduceLT, and_self, true_and, and_true, loopF]
      have hb := getD_mem r [] ht
      refine wp_forM (r.getD t []) ownD (fun os s => ∃ tb' a b c, tb' = os.foldl (landO r.length t) tb ∧ s = ⟨[.fz (rowD r), .ow 2 (tbD tb'), .fz (beatD (r.getD t [])), .fz (.int t), a, b, c, .un], w⟩) ⟨_, _, _, _, rfl, rfl⟩ (fun pre2 o post2 s e2 q => ?_) fun s q => ?_
      · obtain ⟨tb', a', b', c', htb', rfl⟩ := q
        have ho : o ∈ r.getD t [] := by rw [e2]; simp
        have sh' : Shape r.length L tb' := htb' ▸ landB_shape pre2 sh
        rw [List.foldl_append, List.foldl_cons, List.foldl_nil, ← htb']
        simp only [ex_skip, ex_seq, ex_asg, ex_asgo, ex_par, ex_aug, ex_xpr, ex_ite, ex_ret, ex_retn, ex_rai, ex_fr, ex_whl, ev_var, ev_cst, ev_glb, ev_tup, ev_lst, ev_bin, ev_neg, ev_not, ev_and, ev_or, ev_ife, ev_cmp, ev_chn, ev_call, ev_prm, ev_idx, ev_slc, ev_rev, ev_isi, ev_mkt, ev_draw, ev_comp, evA_nil, evA_cons, evP_nil, evP_cons, evO_nil, evO_cons, evI_rng, evI_enu, evI_zip, evI_it, evG_elt, evG_for, bind_bind, bind_ok, bind_exc, bind_stuck, bind_ite, opt_some, ofRW_ok, ofRW_exc, wp_ok, cmp_le, cmp_ge, cmp_lt, cmp_gt, cmp_eq, cmp_ne, cmp_eqb, cmp_isb, cmp_nisb, cmp_isn, cmp_nis, is_int_int, is_int_bl, is_int_str, is_int_tup, is_int_lst, is_int_non, is_bool_int, is_bool_bl, is_bool_str, is_bool_tup, is_bool_lst, is_bool_non, is_tuple_int, is_tuple_bl, is_tuple_str, is_tuple_tup, is_tuple_lst, is_tuple_non, is_list_int, is_list_bl, is_list_str, is_list_tup, is_list_lst, is_list_non, is_str_int, is_str_bl, is_str_str, is_str_tup, is_str_lst, is_str_non, nn_int, nn_bl, nn_str, nn_tup, nn_lst, nn_non, itY_tup, it_lst, sq_tup, sq_lst, len_own, len_beat, len_row, iter_own, iter_beat, iter_row, seq_own, seq_beat, seq_row, isi_own, isi_beat, isi_row, list_own, list_row, sorted_own, isN_row, add_int, sub_int, len_tup, len_lst, tuple_lst, tuple_tup, list_lst, list_tup, stTg, List.getElem?_cons_zero, List.getElem?_cons_succ, List.set_cons_zero, List.set_cons_succ, Option.map_some, Option.bind_some, Prim.look, List.headD_cons, List.tail_cons, slots0, List.zipIdx_cons, List.zipIdx_nil, List.map_cons, List.map_nil, List.lookup_nil, List.replicate_succ, List.replicate_zero, List.append_nil, List.nil_append, List.cons_append, unsl, backsl, List.foldl_cons, List.foldl_nil, flowD, if_true, if_false, Bool.not_true, Bool.not_false, Bool.false_eq_true, Nat.le_refl, Nat.reduceLeDiff, Nat.reduceLT, and_self, true_and, and_true, loopF]
        refine wp_forM o thD (fun ps s => ∃ tb2 b c, tb2 = ps.foldl (fun tb p => bump tb (toT r.length t p) p.2.toNat) tb' ∧ s = ⟨[.fz (rowD r), .ow 2 (tbD tb2), .fz (beatD (r.getD t [])), .fz (.int t), .fz (ownD o), b, c, .un], w⟩) ⟨_, _, _, rfl, rfl⟩ (fun pre3 p post3 s e3 q => ?_) fun s q => ?_
        · obtain ⟨tb2, b2, c2, htb2, rfl⟩ := q
          have hp : p ∈ o := by rw [e3]; simp
          have sh2 : Shape r.length L tb2 := htb2 ▸ landO_shape pre3 sh'
          rw [List.foldl_append, List.foldl_cons, List.foldl_nil, ← htb2]
          have hn : 0 < r.length := h1
          have hi := toT_lt (t := t) (p := p) hn
          have hg := h.goal _ hb o ho p hp
          have hj : p.2.toNat < L := by omega
          have hj' : p.2 = (p.2.toNat : Int) := by omega
          simp only [ex_skip, ex_seq, ex_asg, ex_asgo, ex_par, ex_aug, ex_xpr, ex_ite, ex_ret, ex_retn, ex_rai, ex_fr, ex_whl, ev_var, ev_cst, ev_glb, ev_tup, ev_lst, ev_bin, ev_neg, ev_not, ev_and, ev_or, ev_ife, ev_cmp, ev_chn, ev_call, ev_prm, ev_idx, ev_slc, ev_rev, ev_isi, ev_mkt, ev_draw, ev_comp, evA_nil, evA_cons, evP_nil, evP_cons, evO_nil, evO_cons, evI_rng, evI_enu, evI_zip, evI_it, evG_elt, evG_for, bind_bind, bind_ok, bind_exc, bind_stuck, bind_ite, opt_some, ofRW_ok, ofRW_exc, wp_ok, cmp_le, cmp_ge, cmp_lt, cmp_gt, cmp_eq, cmp_ne, cmp_eqb, cmp_isb, cmp_nisb, cmp_isn, cmp_nis, is_int_int, is_int_bl, is_int_str, is_int_tup, is_int_lst, is_int_non, is_bool_int, is_bool_bl, is_bool_str, is_bool_tup, is_bool_lst, is_bool_non, is_tuple_int, is_tuple_bl, is_tuple_str, is_tuple_tup, is_tuple_lst, is_tuple_non, is_list_int, is_list_bl, is_list_str, is_list_tup, is_list_lst, is_list_non, is_str_int, is_str_bl, is_str_str, is_str_tup, is_str_lst, is_str_non, nn_int, nn_bl, nn_str, nn_tup, nn_lst, nn_non, itY_tup, it_lst, sq_tup, sq_lst, len_own, len_beat, len_row, iter_own, iter_beat, iter_row, seq_own, seq_beat, seq_row, isi_own, isi_beat, isi_row, list_own, list_row, sorted_own, isN_row, add_int, sub_int, len_tup, len_lst, tuple_lst, tuple_tup, list_lst, list_tup, stTg, List.getElem?_cons_zero, List.getElem?_cons_succ, List.set_cons_zero, List.set_cons_succ, Option.map_some, Option.bind_some, Prim.look, List.headD_cons, List.tail_cons, slots0, List.zipIdx_cons, List.zipIdx_nil, List.map_cons, List.map_nil, List.lookup_nil, List.replicate_succ, List.replicate_zero, List.append_nil, List.nil_append, List.cons_append, unsl, backsl, List.foldl_cons, List.foldl_nil, flowD, if_true, if_false, Bool.not_true, Bool.not_false, Bool.false_eq_true, Nat.le_refl, Nat.reduceLeDiff, Nat.reduceLT, and_self, true_and, and_true, loopF, thD]
          rw [tb_augp sh2 hi hj rfl hj' (by simp only [ex_skip, ex_seq, ex_asg, ex_asgo, ex_par, ex_aug, ex_xpr, ex_ite, ex_ret, ex_retn, ex_rai, ex_fr, ex_whl, ev_var, ev_cst, ev_glb, ev_tup, ev_lst, ev_bin, ev_neg, ev_not, ev_and, ev_or, ev_ife, ev_cmp, ev_chn, ev_call, ev_prm, ev_idx, ev_slc, ev_rev, ev_isi, ev_mkt, ev_draw, ev_comp, evA_nil, evA_cons, evP_nil, evP_cons, evO_nil, evO_cons, evI_rng, evI_enu, evI_zip, evI_it, evG_elt, evG_for, bind_bind, bind_ok, bind_exc, bind_stuck, bind_ite, opt_some, ofRW_ok, ofRW_exc, wp_ok, cmp_le, cmp_ge, cmp_lt, cmp_gt, cmp_eq, cmp_ne, cmp_eqb, cmp_isb, cmp_nisb, cmp_isn, cmp_nis, is_int_int, is_int_bl, is_int_str, is_int_tup, is_int_lst, is_int_non, is_bool_int, is_bool_bl, is_bool_str, is_bool_tup, is_bool_lst, is_bool_non, is_tuple_int, is_tuple_bl, is_tuple_str, is_tuple_tup, is_tuple_lst, is_tuple_non, is_list_int, is_list_bl, is_list_str, is_list_tup, is_list_lst, is_list_non, is_str_int, is_str_bl, is_str_str, is_str_tup, is_str_lst, is_str_non, nn_int, nn_bl, nn_str, nn_tup, nn_lst, nn_non, itY_tup, it_lst, sq_tup, sq_lst, len_own, len_beat, len_row, iter_own, iter_beat, iter_row, seq_own, seq_beat, seq_row, isi_own, isi_beat, isi_row, list_own, list_row, sorted_own, isN_row, add_int, sub_int, len_tup, len_lst, tuple_lst, tuple_tup, list_lst, list_tup, stTg, List.getElem?_cons_zero, List.getElem?_cons_succ, List.set_cons_zero, List.set_cons_succ, Option.map_some, Option.bind_some, Prim.look, List.headD_cons, List.tail_cons, slots0, List.zipIdx_cons, List.zipIdx_nil, List.map_cons, List.map_nil, List.lookup_nil, List.replicate_succ, List.replicate_zero, List.append_nil, List.nil_append, List.cons_append, unsl, backsl, List.foldl_cons, List.foldl_nil, flowD, if_true, if_false, Bool.not_true, Bool.not_false, Bool.false_eq_true, Nat.le_refl, Nat.reduceLeDiff, Nat.reduceLT, and_self, true_and, and_true, mod_int (show (0 : Int) < r.length by omega), toT_eq hn]) (by simp only [ex_skip, ex_seq, ex_asg, ex_asgo, ex_par, ex_aug, ex_xpr, ex_ite, ex_ret, ex_retn, ex_rai, ex_fr, ex_whl, ev_var, ev_cst, ev_glb, ev_tup, ev_lst, ev_bin, ev_neg, ev_not, ev_and, ev_or, ev_ife, ev_cmp, ev_chn, ev_call, ev_prm, ev_idx, ev_slc, ev_rev, ev_isi, ev_mkt, ev_draw, ev_comp, evA_nil, evA_cons, evP_nil, evP_cons, evO_nil, evO_cons, evI_rng, evI_enu, evI_zip, evI_it, evG_elt, evG_for, bind_bind, bind_ok, bind_exc, bind_stuck, bind_ite, opt_some, ofRW_ok, ofRW_exc, wp_ok, cmp_le, cmp_ge, cmp_lt, cmp_gt, cmp_eq, cmp_ne, cmp_eqb, cmp_isb, cmp_nisb, cmp_isn, cmp_nis, is_int_int, is_int_bl, is_int_str, is_int_tup, is_int_lst, is_int_non, is_bool_int, is_bool_bl, is_bool_str, is_bool_tup, is_bool_lst, is_bool_non, is_tuple_int, is_tuple_bl, is_tuple_str, is_tuple_tup, is_tuple_lst, is_tuple_non, is_list_int, is_list_bl, is_list_str, is_list_tup, is_list_lst, is_list_non, is_str_int, is_str_bl, is_str_str, is_str_tup, is_str_lst, is_str_non, nn_int, nn_bl, nn_str, nn_tup, nn_lst, nn_non, itY_tup, it_lst, sq_tup, sq_lst, len_own, len_beat, len_row, iter_own, iter_beat, iter_row, seq_own, seq_beat, seq_row, isi_own, isi_beat, isi_row, list_own, list_row, sorted_own, isN_row, add_int, sub_int, len_tup, len_lst, tuple_lst, tuple_tup, list_lst, list_tup, stTg, List.getElem?_cons_zero, List.getElem?_cons_succ, List.set_cons_zero, List.set_cons_succ, Option.map_some, Option.bind_some, Prim.look, List.headD_cons, List.tail_cons, slots0, List.zipIdx_cons, List.zipIdx_nil, List.map_cons, List.map_nil, List.lookup_nil, List.replicate_succ, List.replicate_zero, List.append_nil, List.nil_append, List.cons_append, unsl, backsl, List.foldl_cons, List.foldl_nil, flowD, if_true, if_false, Bool.not_true, Bool.not_false, Bool.false_eq_true, Nat.le_refl, Nat.reduceLeDiff, Nat.reduceLT, and_self, true_and, and_true]), wp_ok]
          exact ⟨_, _, _, rfl, rfl⟩
        · obtain ⟨tb2, b2, c2, htb2, rfl⟩ := q
          exact ⟨_, _, _, _, htb2, rfl⟩
      · obtain ⟨tb', a', b', c', htb', rfl⟩ := q
        exact ⟨_, _, _, _, _, _, htb', rfl⟩
    · obtain ⟨tb, a, b, c, d, e', htb, rfl⟩ := q
      have sh : Shape r.length L tb := htb ▸ landT_shape L r
      simp only [ex_skip, ex_seq, ex_asg, ex_asgo, ex_par, ex_aug, ex_xpr, ex_ite, ex_ret, ex_retn, ex_rai, ex_fr, ex_whl, ev_var, ev_cst, ev_glb, ev_tup, ev_lst, ev_bin, ev_neg, ev_not, ev_and, ev_or, ev_ife, ev_cmp, ev_chn, ev_call, ev_prm, ev_idx, ev_slc, ev_rev, ev_isi, ev_mkt, ev_draw, ev_comp, evA_nil, evA_cons, evP_nil, evP_cons, evO_nil, evO_cons, evI_rng, evI_enu, evI_zip, evI_it, evG_elt, evG_for, bind_bind, bind_ok, bind_exc, bind_stuck, bind_ite, opt_some, ofRW_ok, ofRW_exc, wp_ok, cmp_le, cmp_ge, cmp_lt, cmp_gt, cmp_eq, cmp_ne, cmp_eqb, cmp_isb, cmp_nisb, cmp_isn, cmp_nis, is_int_int, is_int_bl, is_int_str, is_int_tup, is_int_lst, is_int_non, is_bool_int, is_bool_bl, is_bool_str, is_bool_tup, is_bool_lst, is_bool_non, is_tuple_int, is_tuple_bl, is_tuple_str, is_tuple_tup, is_tuple_lst, is_tuple_non, is_list_int, is_list_bl, is_list_str, is_list_tup, is_list_lst, is_list_non, is_str_int, is_str_bl, is_str_str, is_str_tup, is_str_lst, is_str_non, nn_int, nn_bl, nn_str, nn_tup, nn_lst, nn_non, itY_tup, it_lst, sq_tup, sq_lst, len_own, len_beat, len_row, iter_own, iter_beat, iter_row, seq_own, seq_beat, seq_row, isi_own, isi_beat, isi_row, list_own, list_row, sorted_own, isN_row, add_int, sub_int, len_tup, len_lst, tuple_lst, tuple_tup, list_lst, list_tup, stTg, List.getElem?_cons_zero, List.getElem?_cons_succ, List.set_cons_zero, List.set_cons_succ, Option.map_some, Option.bind_some, Prim.look, List.headD_cons, List.tail_cons, slots0, List.zipIdx_cons, List.zipIdx_nil, List.map_cons, List.map_nil, List.lookup_nil, List.replicate_succ, List.replicate_zero, List.append_nil, List.nil_append, List.cons_append, unsl, backsl, List.foldl_cons, List.foldl_nil, flowD, if_true, if_false, Bool.not_true, Bool.not_false, Bool.false_eq_true, Nat.le_refl, Nat.reduceLeDiff, Nat.reduceLT, and_self, true_and, and_true]
      unfold tbD
      simp only [ex_skip, ex_seq, ex_asg, ex_asgo, ex_par, ex_aug, ex_xpr, ex_ite, ex_ret, ex_retn, ex_rai, ex_fr, ex_whl, ev_var, ev_cst, ev_glb, ev_tup, ev_lst, ev_bin, ev_neg, ev_not, ev_and, ev_or, ev_ife, ev_cmp, ev_chn, ev_call, ev_prm, ev_idx, ev_slc, ev_rev, ev_isi, ev_mkt, ev_draw, ev_comp, evA_nil, evA_cons, evP_nil, evP_cons, evO_nil, evO_cons, evI_rng, evI_enu, evI_zip, evI_it, evG_elt, evG_for, bind_bind, bind_ok, bind_exc, bind_stuck, bind_ite, opt_some, ofRW_ok, ofRW_exc, wp_ok, cmp_le, cmp_ge, cmp_lt, cmp_gt, cmp_eq, cmp_ne, cmp_eqb, cmp_isb, cmp_nisb, cmp_isn, cmp_nis, is_int_int, is_int_bl, is_int_str, is_int_tup, is_int_lst, is_int_non, is_bool_int, is_bool_bl, is_bool_str, is_bool_tup, is_bool_lst, is_bool_non, is_tuple_int, is_tuple_bl, is_tuple_str, is_tuple_tup, is_tuple_lst, is_tuple_non, is_list_int, is_list_bl, is_list_str, is_list_tup, is_list_lst, is_list_non, is_str_int, is_str_bl, is_str_str, is_str_tup, is_str_lst, is_str_non, nn_int, nn_bl, nn_str, nn_tup, nn_lst, nn_non, itY_tup, it_lst, sq_tup, sq_lst, len_own, len_beat, len_row, iter_own, iter_beat, iter_row, seq_own, seq_beat, seq_row, isi_own, isi_beat, isi_row, list_own, list_row, sorted_own, isN_row, add_int, sub_int, len_tup, len_lst, tuple_lst, tuple_tup, list_lst, list_tup, stTg, List.getElem?_cons_zero, List.getElem?_cons_succ, List.set_cons_zero, List.set_cons_succ, Option.map_some, Option.bind_some, Prim.look, List.headD_cons, List.tail_cons, slots0, List.zipIdx_cons, List.zipIdx_nil, List.map_cons, List.map_nil, List.lookup_nil, List.replicate_succ, List.replicate_zero, List.append_nil, List.nil_append, List.cons_append, unsl, backsl, List.foldl_cons, List.foldl_nil, flowD, if_true, if_false, Bool.not_true, Bool.not_false, Bool.false_eq_true, Nat.le_refl, Nat.reduceLeDiff, Nat.reduceLT, and_self, true_and, and_true]
      refine wp_comp1 tb (fun l => D.lst (numsD l)) (fun l => .tup (numsD l)) (fun s => ∃ x, s = ⟨[.fz (rowD r), .fz (tbD tb), a, b, c, d, e', x], w⟩) ⟨_, rfl⟩ (by rw [sh.len]; unfold line; omega) (fun l hl acc s q hz => ?_) fun s q => ?_
      · obtain ⟨x, rfl⟩ := q
        simp only [ex_skip, ex_seq, ex_asg, ex_asgo, ex_par, ex_aug, ex_xpr, ex_ite, ex_ret, ex_retn, ex_rai, ex_fr, ex_whl, ev_var, ev_cst, ev_glb, ev_tup, ev_lst, ev_bin, ev_neg, ev_not, ev_and, ev_or, ev_ife, ev_cmp, ev_chn, ev_call, ev_prm, ev_idx, ev_slc, ev_rev, ev_isi, ev_mkt, ev_draw, ev_comp, evA_nil, evA_cons, evP_nil, evP_cons, evO_nil, evO_cons, evI_rng, evI_enu, evI_zip, evI_it, evG_elt, evG_for, bind_bind, bind_ok, bind_exc, bind_stuck, bind_ite, opt_some, ofRW_ok, ofRW_exc, wp_ok, cmp_le, cmp_ge, cmp_lt, cmp_gt, cmp_eq, cmp_ne, cmp_eqb, cmp_isb, cmp_nisb, cmp_isn, cmp_nis, is_int_int, is_int_bl, is_int_str, is_int_tup, is_int_lst, is_int_non, is_bool_int, is_bool_bl, is_bool_str, is_bool_tup, is_bool_lst, is_bool_non, is_tuple_int, is_tuple_bl, is_tuple_str, is_tuple_tup, is_tuple_lst, is_tuple_non, is_list_int, is_list_bl, is_list_str, is_list_tup, is_list_lst, is_list_non, is_str_int, is_str_bl, is_str_str, is_str_tup, is_str_lst, is_str_non, nn_int, nn_bl, nn_str, nn_tup, nn_lst, nn_non, itY_tup, it_lst, sq_tup, sq_lst, len_own, len_beat, len_row, iter_own, iter_beat, iter_row, seq_own, seq_beat, seq_row, isi_own, isi_beat, isi_row, list_own, list_row, sorted_own, isN_row, add_int, sub_int, len_tup, len_lst, tuple_lst, tuple_tup, list_lst, list_tup, stTg, List.getElem?_cons_zero, List.getElem?_cons_succ, List.set_cons_zero, List.set_cons_succ, Option.map_some, Option.bind_some, Prim.look, List.headD_cons, List.tail_cons, slots0, List.zipIdx_cons, List.zipIdx_nil, List.map_cons, List.map_nil, List.lookup_nil, List.replicate_succ, List.replicate_zero, List.append_nil, List.nil_append, List.cons_append, unsl, backsl, List.foldl_cons, List.foldl_nil, flowD, if_true, if_false, Bool.not_true, Bool.not_false, Bool.false_eq_true, Nat.le_refl, Nat.reduceLeDiff, Nat.reduceLT, and_self, true_and, and_true, compF]
        simp [hz, wp_ok]
      · obtain ⟨x, rfl⟩ := q
        simp only [ex_skip, ex_seq, ex_asg, ex_asgo, ex_par, ex_aug, ex_xpr, ex_ite, ex_ret, ex_retn, ex_rai, ex_fr, ex_whl, ev_var, ev_cst, ev_glb, ev_tup, ev_lst, ev_bin, ev_neg, ev_not, ev_and, ev_or, ev_ife, ev_cmp, ev_chn, ev_call, ev_prm, ev_idx, ev_slc, ev_rev, ev_isi, ev_mkt, ev_draw, ev_comp, evA_nil, evA_cons, evP_nil, evP_cons, evO_nil, evO_cons, evI_rng, evI_enu, evI_zip, evI_it, evG_elt, evG_for, bind_bind, bind_ok, bind_exc, bind_stuck, bind_ite, opt_some, ofRW_ok, ofRW_exc, wp_ok, cmp_le, cmp_ge, cmp_lt, cmp_gt, cmp_eq, cmp_ne, cmp_eqb, cmp_isb, cmp_nisb, cmp_isn, cmp_nis, is_int_int, is_int_bl, is_int_str, is_int_tup, is_int_lst, is_int_non, is_bool_int, is_bool_bl, is_bool_str, is_bool_tup, is_bool_lst, is_bool_non, is_tuple_int, is_tuple_bl, is_tuple_str, is_tuple_tup, is_tuple_lst, is_tuple_non, is_list_int, is_list_bl, is_list_str, is_list_tup, is_list_lst, is_list_non, is_str_int, is_str_bl, is_str_str, is_str_tup, is_str_lst, is_str_non, nn_int, nn_bl, nn_str, nn_tup, nn_lst, nn_non, itY_tup, it_lst, sq_tup, sq_lst, len_own, len_beat, len_row, iter_own, iter_beat, iter_row, seq_own, seq_beat, seq_row, isi_own, isi_beat, isi_row, list_own, list_row, sorted_own, isN_row, add_int, sub_int, len_tup, len_lst, tuple_lst, tuple_tup, list_lst, list_tup, stTg, List.getElem?_cons_zero, List.getElem?_cons_succ, List.set_cons_zero, List.set_cons_succ, Option.map_some, Option.bind_some, Prim.look, List.headD_cons, List.tail_cons, slots0, List.zipIdx_cons, List.zipIdx_nil, List.map_cons, List.map_nil, List.lookup_nil, List.replicate_succ, List.replicate_zero, List.append_nil, List.nil_append, List.cons_append, unsl, backsl, List.foldl_cons, List.foldl_nil, flowD, if_true, if_false, Bool.not_true, Bool.not_false, Bool.false_eq_true, Nat.le_refl, Nat.reduceLeDiff, Nat.reduceLT, and_self, true_and, and_true]
        rw [htb]; rfl
end Hx
namespace Hx
open PySem (Str)
theorem tbT_row {n L : Nat} {t : Tb} (h : Shape n L t) {i : Nat} (hi : i < n) {x : Int} (hx : x = (i : Int)) : (tbT t).getI (.int x) = some (.tup (numsD (t.getD i []))) := by
  unfold tbT
  rw [getI_tbl (f := fun l => D.tup (numsD l)) hx (by rw [h.len]; exact hi) []]
theorem pl_tbT {n : Nat} (t : Tb) : Pl (n + 2) (tbT t) := Pl.lst (by
  intro x hx
  obtain ⟨l, _, rfl⟩ := List.mem_map.mp hx
  refine Pl.tup fun y hy => ?_
  obtain ⟨z, _, rfl⟩ := List.mem_map.mp hy
  exact Pl.int)
def pD (p : Nat × Nat) : D := .tup [.int p.1, .int p.2]
theorem pl_pD {n : Nat} (p : Nat × Nat) : Pl (n + 1) (pD p) := Pl.tup (by intro x hx; simp at hx; rcases hx with rfl | rfl <;> exact Pl.int)
def clashL (L : Nat) (r : Rw') (t : Nat) : Option (Nat × Nat) := (List.range L).findSome? fun l => if (((r.getD t []).getD l []).length : Int) = at2 (landT L r) t l then none else some (t, l)
def clash (L : Nat) (r : Rw') : Option (Nat × Nat) := (List.range r.length).findSome? (clashL L r)
def clD (L : Nat) (r : Rw') : D := ((clash L r).map pD).getD .non
theorem pl_clD {n L : Nat} (r : Rw') : Pl (n + 1) (clD L r) := by
  unfold clD
  cases clash L r with
  | none => exact Pl.non
  | some p => exact pl_pD p
theorem clD_non (L : Nat) (r : Rw') : isNon (clD L r) = (clash L r).isNone := by
  unfold clD
  cases clash L r <;> rfl
theorem find_map {A B C : Type} (f : A → Option B) (g : B → C) (xs : List A) : xs.findSome? (fun x => (f x).map g) = (xs.findSome? f).map g := by
  induction xs with
  | nil => rfl
  | cons x xs ih =>
    rw [List.findSome?_cons, List.findSome?_cons]
    cases f x with
    | none => exact ih
    | some y => rfl
theorem s_clash_in {k L : Nat} {r : Rw'} {w : Wd} (h : RowOk L r) : semT tbl (k + 2) 9 [rowD r] w = .ok (clD L r) [] w := by
  refine sem_eq (fn := f_clash_in) rfl rfl ?_
  simp only [ex_skip, ex_seq, ex_asg, ex_asgo, ex_par, ex_aug, ex_xpr, ex_ite, ex_ret, ex_retn, ex_rai, ex_fr, ex_whl, ev_var, ev_cst, ev_glb, ev_tup, ev_lst, ev_bin, ev_neg, ev_not, ev_and, ev_or, ev_ife, ev_cmp, ev_chn, ev_call, ev_prm, ev_idx, ev_slc, ev_rev, ev_isi, ev_mkt, ev_draw, ev_comp, evA_nil, evA_cons, evP_nil, evP_cons, evO_nil, evO_cons, evI_rng, evI_enu, evI_zip, evI_it, evG_elt, evG_for, bind_bind, bind_ok, bind_exc, bind_stuck, bind_ite, opt_some, ofRW_ok, ofRW_exc, wp_ok, cmp_le, cmp_ge, cmp_lt, cmp_gt, cmp_eq, cmp_ne, cmp_eqb, cmp_isb, cmp_nisb, cmp_isn, cmp_nis, is_int_int, is_int_bl, is_int_str, is_int_tup, is_int_lst, is_int_non, is_bool_int, is_bool_bl, is_bool_str, is_bool_tup, is_bool_lst, is_bool_non, is_tuple_int, is_tuple_bl, is_tuple_str, is_tuple_tup, is_tuple_lst, is_tuple_non, is_list_int, is_list_bl, is_list_str, is_list_tup, is_list_lst, is_list_non, is_str_int, is_str_bl, is_str_str, is_str_tup, is_str_lst, is_str_non, nn_int, nn_bl, nn_str, nn_tup, nn_lst, nn_non, itY_tup, it_lst, sq_tup, sq_lst, len_own, len_beat, len_row, iter_own, iter_beat, iter_row, seq_own, seq_beat, seq_row, isi_own, isi_beat, isi_row, list_own, list_row, sorted_own, isN_row, add_int, sub_int, len_tup, len_lst, tuple_lst, tuple_tup, list_lst, list_tup, stTg, List.getElem?_cons_zero, List.getElem?_cons_succ, List.set_cons_zero, List.set_cons_succ, Option.map_some, Option.bind_some, Prim.look, List.headD_cons, List.tail_cons, slots0, List.zipIdx_cons, List.zipIdx_nil, List.map_cons, List.map_nil, List.lookup_nil, List.replicate_succ, List.replicate_zero, List.append_nil, List.nil_append, List.cons_append, unsl, backsl, List.foldl_cons, List.foldl_nil, flowD, if_true, if_false, Bool.not_true, Bool.not_false, Bool.false_eq_true, Nat.le_refl, Nat.reduceLeDiff, Nat.reduceLT, and_self, true_and, and_true, f_clash_in, s_landed h, enumL_rng []]
  have sh := landT_shape L r
  refine wp_findB (List.range r.length) _ (fun t => (clashL L r t).map pD) (fun s => ∃ a b c d, s = ⟨[.fz (rowD r), .fz (tbT (landT L r)), a, b, c, d], w⟩) (fun s => s.w = w) ⟨_, _, _, _, rfl⟩ (fun t ht s q => ?_) (fun s q e => ?_) fun v s q e => ?_
  · obtain ⟨a, b, c, d, rfl⟩ := q
    have ht' : t < r.length := List.mem_range.mp ht
    simp only [ex_skip, ex_seq, ex_asg, ex_asgo, ex_par, ex_aug, ex_xpr, ex_ite, ex_ret, ex_retn, ex_rai, ex_fr, ex_whl, ev_var, ev_cst, ev_glb, ev_tup, ev_lst, ev_bin, ev_neg, ev_not, ev_and, ev_or, ev_ife, ev_cmp, ev_chn, ev_call, ev_prm, ev_idx, ev_slc, ev_rev, ev_isi, ev_mkt, ev_draw, ev_comp, evA_nil, evA_cons, evP_nil, evP_cons, evO_nil, evO_cons, evI_rng, evI_enu, evI_zip, evI_it, evG_elt, evG_for, bind_bind, bind_ok, bind_exc, bind_stuck, bind_ite, opt_some, ofRW_ok, ofRW_exc, wp_ok, cmp_le, cmp_ge, cmp_lt, cmp_gt, cmp_eq, cmp_ne, cmp_eqb, cmp_isb, cmp_nisb, cmp_isn, cmp_nis, is_int_int, is_int_bl, is_int_str, is_int_tup, is_int_lst, is_int_non, is_bool_int, is_bool_bl, is_bool_str, is_bool_tup, is_bool_lst, is_bool_non, is_tuple_int, is_tuple_bl, is_tuple_str, is_tuple_tup, is_tuple_lst, is_tuple_non, is_list_int, is_list_bl, is_list_str, is_list_tup, is_list_lst, is_list_non, is_str_int, is_str_bl, is_str_str, is_str_tup, is_str_lst, is_str_non, nn_int, nn_bl, nn_str, nn_tup, nn_lst, nn_non, itY_tup, it_lst, sq_tup, sq_lst, len_own, len_beat, len_row, iter_own, iter_beat, iter_row, seq_own, seq_beat, seq_row, isi_own, isi_beat, isi_row, list_own, list_row, sorted_own, isN_row, add_int, sub_int, len_tup, len_lst, tuple_lst, tuple_tup, list_lst, list_tup, stTg, List.getElem?_cons_zero, List.getElem?_cons_succ, List.set_cons_zero, List.set_cons_succ, Option.map_some, Option.bind_some, Prim.look, List.headD_cons, List.tail_cons, slots0, List.zipIdx_cons, List.zipIdx_nil, List.map_cons, List.map_nil, List.lookup_nil, List.replicate_succ, List.replicate_zero, List.append_nil, List.nil_append, List.cons_append, unsl, backsl, List.foldl_cons, List.foldl_nil, flowD, if_true, if_false, Bool.not_true, Bool.not_false, Bool.false_eq_true, Nat.le_refl, Nat.reduceLeDiff, Nat.reduceLT, and_self, true_and, and_true, loopF, enumL_rng []]
    refine (wp_find (List.range (r.getD t []).length) _ (fun l => (if (((r.getD t []).getD l []).length : Int) = at2 (landT L r) t l then none else some (t, l)).map pD) (fun s => ∃ c d, s = ⟨[.fz (rowD r), .fz (tbT (landT L r)), .fz (.int t), .fz (beatD (r.getD t [])), c, d], w⟩) (fun s => s.w = w) ⟨_, _, rfl⟩ (fun l hl s q => ?_)).imp fun fl s q => ?_
    · obtain ⟨c, d, rfl⟩ := q
      have hl' : l < L := by rw [← h.beat ht']; exact List.mem_range.mp hl
      simp only [ex_skip, ex_seq, ex_asg, ex_asgo, ex_par, ex_aug, ex_xpr, ex_ite, ex_ret, ex_retn, ex_rai, ex_fr, ex_whl, ev_var, ev_cst, ev_glb, ev_tup, ev_lst, ev_bin, ev_neg, ev_not, ev_and, ev_or, ev_ife, ev_cmp, ev_chn, ev_call, ev_prm, ev_idx, ev_slc, ev_rev, ev_isi, ev_mkt, ev_draw, ev_comp, evA_nil, evA_cons, evP_nil, evP_cons, evO_nil, evO_cons, evI_rng, evI_enu, evI_zip, evI_it, evG_elt, evG_for, bind_bind, bind_ok, bind_exc, bind_stuck, bind_ite, opt_some, ofRW_ok, ofRW_exc, wp_ok, cmp_le, cmp_ge, cmp_lt, cmp_gt, cmp_eq, cmp_ne, cmp_eqb, cmp_isb, cmp_nisb, cmp_isn, cmp_nis, is_int_int, is_int_bl, is_int_str, is_int_tup, is_int_lst, is_int_non, is_bool_int, is_bool_bl, is_bool_str, is_bool_tup, is_bool_lst, is_bool_non, is_tuple_int, is_tuple_bl, is_tuple_str, is_tuple_tup, is_tuple_lst, is_tuple_non, is_list_int, is_list_bl, is_list_str, is_list_tup, is_list_lst, is_list_non, is_str_int, is_str_bl, is_str_str, is_str_tup, is_str_lst, is_str_non, nn_int, nn_bl, nn_str, nn_tup, nn_lst, nn_non, itY_tup, it_lst, sq_tup, sq_lst, len_own, len_beat, len_row, iter_own, iter_beat, iter_row, seq_own, seq_beat, seq_row, isi_own, isi_beat, isi_row, list_own, list_row, sorted_own, isN_row, add_int, sub_int, len_tup, len_lst, tuple_lst, tuple_tup, list_lst, list_tup, stTg, List.getElem?_cons_zero, List.getElem?_cons_succ, List.set_cons_zero, List.set_cons_succ, Option.map_some, Option.bind_some, Prim.look, List.headD_cons, List.tail_cons, slots0, List.zipIdx_cons, List.zipIdx_nil, List.map_cons, List.map_nil, List.lookup_nil, List.replicate_succ, List.replicate_zero, List.append_nil, List.nil_append, List.cons_append, unsl, backsl, List.foldl_cons, List.foldl_nil, flowD, if_true, if_false, Bool.not_true, Bool.not_false, Bool.false_eq_true, Nat.le_refl, Nat.reduceLeDiff, Nat.reduceLT, and_self, true_and, and_true, loopF, tbT_row sh ht' rfl, nums_at_t (l := (landT L r).getD t []) (j := l) (by rw [sh.wid t ht']; exact hl') rfl]
      by_cases e : (((r.getD t []).getD l []).length : Int) = at2 (landT L r) t l
      · rw [if_pos e]
        unfold at2 at e
        simp only [ex_skip, ex_seq, ex_asg, ex_asgo, ex_par, ex_aug, ex_xpr, ex_ite, ex_ret, ex_retn, ex_rai, ex_fr, ex_whl, ev_var, ev_cst, ev_glb, ev_tup, ev_lst, ev_bin, ev_neg, ev_not, ev_and, ev_or, ev_ife, ev_cmp, ev_chn, ev_call, ev_prm, ev_idx, ev_slc, ev_rev, ev_isi, ev_mkt, ev_draw, ev_comp, evA_nil, evA_cons, evP_nil, evP_cons, evO_nil, evO_cons, evI_rng, evI_enu, evI_zip, evI_it, evG_elt, evG_for, bind_bind, bind_ok, bind_exc, bind_stuck, bind_ite, opt_some, ofRW_ok, ofRW_exc, wp_ok, cmp_le, cmp_ge, cmp_lt, cmp_gt, cmp_eq, cmp_ne, cmp_eqb, cmp_isb, cmp_nisb, cmp_isn, cmp_nis, is_int_int, is_int_bl, is_int_str, is_int_tup, is_int_lst, is_int_non, is_bool_int, is_bool_bl, is_bool_str, is_bool_tup, is_bool_lst, is_bool_non, is_tuple_int, is_tuple_bl, is_tuple_str, is_tuple_tup, is_tuple_lst, is_tuple_non, is_list_int, is_list_bl, is_list_str, is_list_tup, is_list_lst, is_list_non, is_str_int, is_str_bl, is_str_str, is_str_tup, is_str_lst, is_str_non, nn_int, nn_bl, nn_str, nn_tup, nn_lst, nn_non, itY_tup, it_lst, sq_tup, sq_lst, len_own, len_beat, len_row, iter_own, iter_beat, iter_row, seq_own, seq_beat, seq_row, isi_own, isi_beat, isi_row, list_own, list_row, sorted_own, isN_row, add_int, sub_int, len_tup, len_lst, tuple_lst, tuple_tup, list_lst, list_tup, stTg, List.getElem?_cons_zero, List.getElem?_cons_succ, List.set_cons_zero, List.set_cons_succ, Option.map_some, Option.bind_some, Prim.look, List.headD_cons, List.tail_cons, slots0, List.zipIdx_cons, List.zipIdx_nil, List.map_cons, List.map_nil, List.lookup_nil, List.replicate_succ, List.replicate_zero, List.append_nil, List.nil_append, List.cons_append, unsl, backsl, List.foldl_cons, List.foldl_nil, flowD, if_true, if_false, Bool.not_true, Bool.not_false, Bool.false_eq_true, Nat.le_refl, Nat.reduceLeDiff, Nat.reduceLT, and_self, true_and, and_true, e, decide_true]
        simp [wp_ok]
      · rw [if_neg e]
        unfold at2 at e
        simp only [ex_skip, ex_seq, ex_asg, ex_asgo, ex_par, ex_aug, ex_xpr, ex_ite, ex_ret, ex_retn, ex_rai, ex_fr, ex_whl, ev_var, ev_cst, ev_glb, ev_tup, ev_lst, ev_bin, ev_neg, ev_not, ev_and, ev_or, ev_ife, ev_cmp, ev_chn, ev_call, ev_prm, ev_idx, ev_slc, ev_rev, ev_isi, ev_mkt, ev_draw, ev_comp, evA_nil, evA_cons, evP_nil, evP_cons, evO_nil, evO_cons, evI_rng, evI_enu, evI_zip, evI_it, evG_elt, evG_for, bind_bind, bind_ok, bind_exc, bind_stuck, bind_ite, opt_some, ofRW_ok, ofRW_exc, wp_ok, cmp_le, cmp_ge, cmp_lt, cmp_gt, cmp_eq, cmp_ne, cmp_eqb, cmp_isb, cmp_nisb, cmp_isn, cmp_nis, is_int_int, is_int_bl, is_int_str, is_int_tup, is_int_lst, is_int_non, is_bool_int, is_bool_bl, is_bool_str, is_bool_tup, is_bool_lst, is_bool_non, is_tuple_int, is_tuple_bl, is_tuple_str, is_tuple_tup, is_tuple_lst, is_tuple_non, is_list_int, is_list_bl, is_list_str, is_list_tup, is_list_lst, is_list_non, is_str_int, is_str_bl, is_str_str, is_str_tup, is_str_lst, is_str_non, nn_int, nn_bl, nn_str, nn_tup, nn_lst, nn_non, itY_tup, it_lst, sq_tup, sq_lst, len_own, len_beat, len_row, iter_own, iter_beat, iter_row, seq_own, seq_beat, seq_row, isi_own, isi_beat, isi_row, list_own, list_row, sorted_own, isN_row, add_int, sub_int, len_tup, len_lst, tuple_lst, tuple_tup, list_lst, list_tup, stTg, List.getElem?_cons_zero, List.getElem?_cons_succ, List.set_cons_zero, List.set_cons_succ, Option.map_some, Option.bind_some, Prim.look, List.headD_cons, List.tail_cons, slots0, List.zipIdx_cons, List.zipIdx_nil, List.map_cons, List.map_nil, List.lookup_nil, List.replicate_succ, List.replicate_zero, List.append_nil, List.nil_append, List.cons_append, unsl, backsl, List.foldl_cons, List.foldl_nil, flowD, if_true, if_false, Bool.not_true, Bool.not_false, Bool.false_eq_true, Nat.le_refl, Nat.reduceLeDiff, Nat.reduceLT, and_self, true_and, and_true, decide_eq_false e]
        simp [wp_ok, pD]
    · rw [find_map, h.beat ht'] at q
      show match (clashL L r t).map pD with
        | none => _
        | some v => _
      unfold clashL
      generalize (List.range L).findSome? (fun l => if (((r.getD t []).getD l []).length : Int) = at2 (landT L r) t l then none else some (t, l)) = z at q ⊢
      cases z with
      | none => obtain ⟨rfl, c, d, rfl⟩ := q; exact ⟨rfl, _, _, _, _, rfl⟩
      | some p => exact q
  · obtain ⟨a, b, c, d, rfl⟩ := q
    rw [find_map] at e
    simp only [ex_skip, ex_seq, ex_asg, ex_asgo, ex_par, ex_aug, ex_xpr, ex_ite, ex_ret, ex_retn, ex_rai, ex_fr, ex_whl, ev_var, ev_cst, ev_glb, ev_tup, ev_lst, ev_bin, ev_neg, ev_not, ev_and, ev_or, ev_ife, ev_cmp, ev_chn, ev_call, ev_prm, ev_idx, ev_slc, ev_rev, ev_isi, ev_mkt, ev_draw, ev_comp, evA_nil, evA_cons, evP_nil, evP_cons, evO_nil, evO_cons, evI_rng, evI_enu, evI_zip, evI_it, evG_elt, evG_for, bind_bind, bind_ok, bind_exc, bind_stuck, bind_ite, opt_some, ofRW_ok, ofRW_exc, wp_ok, cmp_le, cmp_ge, cmp_lt, cmp_gt, cmp_eq, cmp_ne, cmp_eqb, cmp_isb, cmp_nisb, cmp_isn, cmp_nis, is_int_int, is_int_bl, is_int_str, is_int_tup, is_int_lst, is_int_non, is_bool_int, is_bool_bl, is_bool_str, is_bool_tup, is_bool_lst, is_bool_non, is_tuple_int, is_tuple_bl, is_tuple_str, is_tuple_tup, is_tuple_lst, is_tuple_non, is_list_int, is_list_bl, is_list_str, is_list_tup, is_list_lst, is_list_non, is_str_int, is_str_bl, is_str_str, is_str_tup, is_str_lst, is_str_non, nn_int, nn_bl, nn_str, nn_tup, nn_lst, nn_non, itY_tup, it_lst, sq_tup, sq_lst, len_own, len_beat, len_row, iter_own, iter_beat, iter_row, seq_own, seq_beat, seq_row, isi_own, isi_beat, isi_row, list_own, list_row, sorted_own, isN_row, add_int, sub_int, len_tup, len_lst, tuple_lst, tuple_tup, list_lst, list_tup, stTg, List.getElem?_cons_zero, List.getElem?_cons_succ, List.set_cons_zero, List.set_cons_succ, Option.map_some, Option.bind_some, Prim.look, List.headD_cons, List.tail_cons, slots0, List.zipIdx_cons, List.zipIdx_nil, List.map_cons, List.map_nil, List.lookup_nil, List.replicate_succ, List.replicate_zero, List.append_nil, List.nil_append, List.cons_append, unsl, backsl, List.foldl_cons, List.foldl_nil, flowD, if_true, if_false, Bool.not_true, Bool.not_false, Bool.false_eq_true, Nat.le_refl, Nat.reduceLeDiff, Nat.reduceLT, and_self, true_and, and_true]
    unfold clD clash
    rw [Option.map_eq_none_iff.mp e]; rfl
  · rw [find_map] at e
    simp only [ex_skip, ex_seq, ex_asg, ex_asgo, ex_par, ex_aug, ex_xpr, ex_ite, ex_ret, ex_retn, ex_rai, ex_fr, ex_whl, ev_var, ev_cst, ev_glb, ev_tup, ev_lst, ev_bin, ev_neg, ev_not, ev_and, ev_or, ev_ife, ev_cmp, ev_chn, ev_call, ev_prm, ev_idx, ev_slc, ev_rev, ev_isi, ev_mkt, ev_draw, ev_comp, evA_nil, evA_cons, evP_nil, evP_cons, evO_nil, evO_cons, evI_rng, evI_enu, evI_zip, evI_it, evG_elt, evG_for, bind_bind, bind_ok, bind_exc, bind_stuck, bind_ite, opt_some, ofRW_ok, ofRW_exc, wp_ok, cmp_le, cmp_ge, cmp_lt, cmp_gt, cmp_eq, cmp_ne, cmp_eqb, cmp_isb, cmp_nisb, cmp_isn, cmp_nis, is_int_int, is_int_bl, is_int_str, is_int_tup, is_int_lst, is_int_non, is_bool_int, is_bool_bl, is_bool_str, is_bool_tup, is_bool_lst, is_bool_non, is_tuple_int, is_tuple_bl, is_tuple_str, is_tuple_tup, is_tuple_lst, is_tuple_non, is_list_int, is_list_bl, is_list_str, is_list_tup, is_list_lst, is_list_non, is_str_int, is_str_bl, is_str_str, is_str_tup, is_str_lst, is_str_non, nn_int, nn_bl, nn_str, nn_tup, nn_lst, nn_non, itY_tup, it_lst, sq_tup, sq_lst, len_own, len_beat, len_row, iter_own, iter_beat, iter_row, seq_own, seq_beat, seq_row, isi_own, isi_beat, isi_row, list_own, list_row, sorted_own, isN_row, add_int, sub_int, len_tup, len_lst, tuple_lst, tuple_tup, list_lst, list_tup, stTg, List.getElem?_cons_zero, List.getElem?_cons_succ, List.set_cons_zero, List.set_cons_succ, Option.map_some, Option.bind_some, Prim.look, List.headD_cons, List.tail_cons, slots0, List.zipIdx_cons, List.zipIdx_nil, List.map_cons, List.map_nil, List.lookup_nil, List.replicate_succ, List.replicate_zero, List.append_nil, List.nil_append, List.cons_append, unsl, backsl, List.foldl_cons, List.foldl_nil, flowD, if_true, if_false, Bool.not_true, Bool.not_false, Bool.false_eq_true, Nat.le_refl, Nat.reduceLeDiff, Nat.reduceLT, and_self, true_and, and_true]
    refine ⟨?_, q⟩
    unfold clD clash
    rw [e]; rfl
theorem s_first_clash {k L : Nat} {r : Rw'} {w : Wd} (h : RowOk L r) : semT tbl (k + 6) 8 [rowD r] w = .ok (clD L r) [] w := by
  refine sem_eq (fn := f_first_clash) rfl rfl ?_
  simp only [ex_skip, ex_seq, ex_asg, ex_asgo, ex_par, ex_aug, ex_xpr, ex_ite, ex_ret, ex_retn, ex_rai, ex_fr, ex_whl, ev_var, ev_cst, ev_glb, ev_tup, ev_lst, ev_bin, ev_neg, ev_not, ev_and, ev_or, ev_ife, ev_cmp, ev_chn, ev_call, ev_prm, ev_idx, ev_slc, ev_rev, ev_isi, ev_mkt, ev_draw, ev_comp, evA_nil, evA_cons, evP_nil, evP_cons, evO_nil, evO_cons, evI_rng, evI_enu, evI_zip, evI_it, evG_elt, evG_for, bind_bind, bind_ok, bind_exc, bind_stuck, bind_ite, opt_some, ofRW_ok, ofRW_exc, wp_ok, cmp_le, cmp_ge, cmp_lt, cmp_gt, cmp_eq, cmp_ne, cmp_eqb, cmp_isb, cmp_nisb, cmp_isn, cmp_nis, is_int_int, is_int_bl, is_int_str, is_int_tup, is_int_lst, is_int_non, is_bool_int, is_bool_bl, is_bool_str, is_bool_tup, is_bool_lst, is_bool_non, is_tuple_int, is_tuple_bl, is_tuple_str, is_tuple_tup, is_tuple_lst, is_tuple_non, is_list_int, is_list_bl, is_list_str, is_list_tup, is_list_lst, is_list_non, is_str_int, is_str_bl, is_str_str, is_str_tup, is_str_lst, is_str_non, nn_int, nn_bl, nn_str, nn_tup, nn_lst, nn_non, itY_tup, it_lst, sq_tup, sq_lst, len_own, len_beat, len_row, iter_own, iter_beat, iter_row, seq_own, seq_beat, seq_row, isi_own, isi_beat, isi_row, list_own, list_row, sorted_own, isN_row, add_int, sub_int, len_tup, len_lst, tuple_lst, tuple_tup, list_lst, list_tup, stTg, List.getElem?_cons_zero, List.getElem?_cons_succ, List.set_cons_zero, List.set_cons_succ, Option.map_some, Option.bind_some, Prim.look, List.headD_cons, List.tail_cons, slots0, List.zipIdx_cons, List.zipIdx_nil, List.map_cons, List.map_nil, List.lookup_nil, List.replicate_succ, List.replicate_zero, List.append_nil, List.nil_append, List.cons_append, unsl, backsl, List.foldl_cons, List.foldl_nil, flowD, if_true, if_false, Bool.not_true, Bool.not_false, Bool.false_eq_true, Nat.le_refl, Nat.reduceLeDiff, Nat.reduceLT, and_self, true_and, and_true, f_first_clash, s_look_row h, s_clash_in h]
theorem s_landings {k L : Nat} {r : Rw'} {w : Wd} (h : RowOk L r) : semT tbl (k + 6) 6 [rowD r] w = .ok (tbT (landT L r)) [] w := by
  refine sem_eq (fn := f_landings) rfl rfl ?_
  simp only [ex_skip, ex_seq, ex_asg, ex_asgo, ex_par, ex_aug, ex_xpr, ex_ite, ex_ret, ex_retn, ex_rai, ex_fr, ex_whl, ev_var, ev_cst, ev_glb, ev_tup, ev_lst, ev_bin, ev_neg, ev_not, ev_and, ev_or, ev_ife, ev_cmp, ev_chn, ev_call, ev_prm, ev_idx, ev_slc, ev_rev, ev_isi, ev_mkt, ev_draw, ev_comp, evA_nil, evA_cons, evP_nil, evP_cons, evO_nil, evO_cons, evI_rng, evI_enu, evI_zip, evI_it, evG_elt, evG_for, bind_bind, bind_ok, bind_exc, bind_stuck, bind_ite, opt_some, ofRW_ok, ofRW_exc, wp_ok, cmp_le, cmp_ge, cmp_lt, cmp_gt, cmp_eq, cmp_ne, cmp_eqb, cmp_isb, cmp_nisb, cmp_isn, cmp_nis, is_int_int, is_int_bl, is_int_str, is_int_tup, is_int_lst, is_int_non, is_bool_int, is_bool_bl, is_bool_str, is_bool_tup, is_bool_lst, is_bool_non, is_tuple_int, is_tuple_bl, is_tuple_str, is_tuple_tup, is_tuple_lst, is_tuple_non, is_list_int, is_list_bl, is_list_str, is_list_tup, is_list_lst, is_list_non, is_str_int, is_str_bl, is_str_str, is_str_tup, is_str_lst, is_str_non, nn_int, nn_bl, nn_str, nn_tup, nn_lst, nn_non, itY_tup, it_lst, sq_tup, sq_lst, len_own, len_beat, len_row, iter_own, iter_beat, iter_row, seq_own, seq_beat, seq_row, isi_own, isi_beat, isi_row, list_own, list_row, sorted_own, isN_row, add_int, sub_int, len_tup, len_lst, tuple_lst, tuple_tup, list_lst, list_tup, stTg, List.getElem?_cons_zero, List.getElem?_cons_succ, List.set_cons_zero, List.set_cons_succ, Option.map_some, Option.bind_some, Prim.look, List.headD_cons, List.tail_cons, slots0, List.zipIdx_cons, List.zipIdx_nil, List.map_cons, List.map_nil, List.lookup_nil, List.replicate_succ, List.replicate_zero, List.append_nil, List.nil_append, List.cons_append, unsl, backsl, List.foldl_cons, List.foldl_nil, flowD, if_true, if_false, Bool.not_true, Bool.not_false, Bool.false_eq_true, Nat.le_refl, Nat.reduceLeDiff, Nat.reduceLT, and_self, true_and, and_true, f_landings, s_look_row h, s_landed h]
theorem s_fits {k L : Nat} {r : Rw'} {w : Wd} (h : RowOk L r) : semT tbl (k + 7) 10 [rowD r] w = .ok (.bl (clash L r).isNone) [] w := by
  refine sem_eq (fn := f_fits) rfl rfl ?_
  simp only [ex_skip, ex_seq, ex_asg, ex_asgo, ex_par, ex_aug, ex_xpr, ex_ite, ex_ret, ex_retn, ex_rai, ex_fr, ex_whl, ev_var, ev_cst, ev_glb, ev_tup, ev_lst, ev_bin, ev_neg, ev_not, ev_and, ev_or, ev_ife, ev_cmp, ev_chn, ev_call, ev_prm, ev_idx, ev_slc, ev_rev, ev_isi, ev_mkt, ev_draw, ev_comp, evA_nil, evA_cons, evP_nil, evP_cons, evO_nil, evO_cons, evI_rng, evI_enu, evI_zip, evI_it, evG_elt, evG_for, bind_bind, bind_ok, bind_exc, bind_stuck, bind_ite, opt_some, ofRW_ok, ofRW_exc, wp_ok, cmp_le, cmp_ge, cmp_lt, cmp_gt, cmp_eq, cmp_ne, cmp_eqb, cmp_isb, cmp_nisb, cmp_isn, cmp_nis, is_int_int, is_int_bl, is_int_str, is_int_tup, is_int_lst, is_int_non, is_bool_int, is_bool_bl, is_bool_str, is_bool_tup, is_bool_lst, is_bool_non, is_tuple_int, is_tuple_bl, is_tuple_str, is_tuple_tup, is_tuple_lst, is_tuple_non, is_list_int, is_list_bl, is_list_str, is_list_tup, is_list_lst, is_list_non, is_str_int, is_str_bl, is_str_str, is_str_tup, is_str_lst, is_str_non, nn_int, nn_bl, nn_str, nn_tup, nn_lst, nn_non, itY_tup, it_lst, sq_tup, sq_lst, len_own, len_beat, len_row, iter_own, iter_beat, iter_row, seq_own, seq_beat, seq_row, isi_own, isi_beat, isi_row, list_own, list_row, sorted_own, isN_row, add_int, sub_int, len_tup, len_lst, tuple_lst, tuple_tup, list_lst, list_tup, stTg, List.getElem?_cons_zero, List.getElem?_cons_succ, List.set_cons_zero, List.set_cons_succ, Option.map_some, Option.bind_some, Prim.look, List.headD_cons, List.tail_cons, slots0, List.zipIdx_cons, List.zipIdx_nil, List.map_cons, List.map_nil, List.lookup_nil, List.replicate_succ, List.replicate_zero, List.append_nil, List.nil_append, List.cons_append, unsl, backsl, List.foldl_cons, List.foldl_nil, flowD, if_true, if_false, Bool.not_true, Bool.not_false, Bool.false_eq_true, Nat.le_refl, Nat.reduceLeDiff, Nat.reduceLT, and_self, true_and, and_true, f_fits, s_first_clash h, clD_non]
theorem s_look_fits {k L : Nat} {r : Rw'} {w : Wd} (h : RowOk L r) (f : clash L r = none) : semT tbl (k + 6) 11 [rowD r] w = .ok .non [] w := by
  refine sem_eq (fn := f_look_fits) rfl rfl ?_
  simp only [ex_skip, ex_seq, ex_asg, ex_asgo, ex_par, ex_aug, ex_xpr, ex_ite, ex_ret, ex_retn, ex_rai, ex_fr, ex_whl, ev_var, ev_cst, ev_glb, ev_tup, ev_lst, ev_bin, ev_neg, ev_not, ev_and, ev_or, ev_ife, ev_cmp, ev_chn, ev_call, ev_prm, ev_idx, ev_slc, ev_rev, ev_isi, ev_mkt, ev_draw, ev_comp, evA_nil, evA_cons, evP_nil, evP_cons, evO_nil, evO_cons, evI_rng, evI_enu, evI_zip, evI_it, evG_elt, evG_for, bind_bind, bind_ok, bind_exc, bind_stuck, bind_ite, opt_some, ofRW_ok, ofRW_exc, wp_ok, cmp_le, cmp_ge, cmp_lt, cmp_gt, cmp_eq, cmp_ne, cmp_eqb, cmp_isb, cmp_nisb, cmp_isn, cmp_nis, is_int_int, is_int_bl, is_int_str, is_int_tup, is_int_lst, is_int_non, is_bool_int, is_bool_bl, is_bool_str, is_bool_tup, is_bool_lst, is_bool_non, is_tuple_int, is_tuple_bl, is_tuple_str, is_tuple_tup, is_tuple_lst, is_tuple_non, is_list_int, is_list_bl, is_list_str, is_list_tup, is_list_lst, is_list_non, is_str_int, is_str_bl, is_str_str, is_str_tup, is_str_lst, is_str_non, nn_int, nn_bl, nn_str, nn_tup, nn_lst, nn_non, itY_tup, it_lst, sq_tup, sq_lst, len_own, len_beat, len_row, iter_own, iter_beat, iter_row, seq_own, seq_beat, seq_row, isi_own, isi_beat, isi_row, list_own, list_row, sorted_own, isN_row, add_int, sub_int, len_tup, len_lst, tuple_lst, tuple_tup, list_lst, list_tup, stTg, List.getElem?_cons_zero, List.getElem?_cons_succ, List.set_cons_zero, List.set_cons_succ, Option.map_some, Option.bind_some, Prim.look, List.headD_cons, List.tail_cons, slots0, List.zipIdx_cons, List.zipIdx_nil, List.map_cons, List.map_nil, List.lookup_nil, List.replicate_succ, List.replicate_zero, List.append_nil, List.nil_append, List.cons_append, unsl, backsl, List.foldl_cons, List.foldl_nil, flowD, if_true, if_false, Bool.not_true, Bool.not_false, Bool.false_eq_true, Nat.le_refl, Nat.reduceLeDiff, Nat.reduceLT, and_self, true_and, and_true, f_look_fits, s_look_row h, s_clash_in h, clD_non, f, Option.isNone_none]
theorem s_look_clash {k L : Nat} {r : Rw'} {w : Wd} {p : Nat × Nat} (h : RowOk L r) (f : clash L r = some p) : semT tbl (k + 6) 11 [rowD r] w = .exc "Clash" [.int p.1, .int p.2] w := by
  refine sem_exc (fn := f_look_fits) rfl rfl ?_
  have e : clD L r = .tup [.int p.1, .int p.2] := by unfold clD; rw [f]; rfl
  simp only [ex_skip, ex_seq, ex_asg, ex_asgo, ex_par, ex_aug, ex_xpr, ex_ite, ex_ret, ex_retn, ex_rai, ex_fr, ex_whl, ev_var, ev_cst, ev_glb, ev_tup, ev_lst, ev_bin, ev_neg, ev_not, ev_and, ev_or, ev_ife, ev_cmp, ev_chn, ev_call, ev_prm, ev_idx, ev_slc, ev_rev, ev_isi, ev_mkt, ev_draw, ev_comp, evA_nil, evA_cons, evP_nil, evP_cons, evO_nil, evO_cons, evI_rng, evI_enu, evI_zip, evI_it, evG_elt, evG_for, bind_bind, bind_ok, bind_exc, bind_stuck, bind_ite, opt_some, ofRW_ok, ofRW_exc, wp_ok, cmp_le, cmp_ge, cmp_lt, cmp_gt, cmp_eq, cmp_ne, cmp_eqb, cmp_isb, cmp_nisb, cmp_isn, cmp_nis, is_int_int, is_int_bl, is_int_str, is_int_tup, is_int_lst, is_int_non, is_bool_int, is_bool_bl, is_bool_str, is_bool_tup, is_bool_lst, is_bool_non, is_tuple_int, is_tuple_bl, is_tuple_str, is_tuple_tup, is_tuple_lst, is_tuple_non, is_list_int, is_list_bl, is_list_str, is_list_tup, is_list_lst, is_list_non, is_str_int, is_str_bl, is_str_str, is_str_tup, is_str_lst, is_str_non, nn_int, nn_bl, nn_str, nn_tup, nn_lst, nn_non, itY_tup, it_lst, sq_tup, sq_lst, len_own, len_beat, len_row, iter_own, iter_beat, iter_row, seq_own, seq_beat, seq_row, isi_own, isi_beat, isi_row, list_own, list_row, sorted_own, isN_row, add_int, sub_int, len_tup, len_lst, tuple_lst, tuple_tup, list_lst, list_tup, stTg, List.getElem?_cons_zero, List.getElem?_cons_succ, List.set_cons_zero, List.set_cons_succ, Option.map_some, Option.bind_some, Prim.look, List.headD_cons, List.tail_cons, slots0, List.zipIdx_cons, List.zipIdx_nil, List.map_cons, List.map_nil, List.lookup_nil, List.replicate_succ, List.replicate_zero, List.append_nil, List.nil_append, List.cons_append, unsl, backsl, List.foldl_cons, List.foldl_nil, flowD, if_true, if_false, Bool.not_true, Bool.not_false, Bool.false_eq_true, Nat.le_refl, Nat.reduceLeDiff, Nat.reduceLT, and_self, true_and, and_true, f_look_fits, s_look_row h, s_clash_in h, clD_non, f, Option.isNone_some, e, getI_tup (i := 0) (j := 0) (xs := [D.int p.1, D.int p.2]) rfl (show 0 < 2 by omega), getI_tup (i := 1) (j := 1) (xs := [D.int p.1, D.int p.2]) rfl (show 1 < 2 by omega)]
  simp [WP]
def heightsO (o : List Th) : List Int := o.map (·.1)
def heightsB (b : Bt) : List Int := b.flatMap heightsO
def heights (r : Rw') : List Int := r.flatMap heightsB
theorem flat_le {A B : Type} (f : A → List B) (c : Nat) : ∀ (xs : List A), (∀ x ∈ xs, (f x).length ≤ c) → (xs.flatMap f).length ≤ xs.length * c
  | [], _ => Nat.zero_le _
  | x :: xs, h => by
    rw [List.flatMap_cons, List.length_append, List.length_cons, Nat.succ_mul]
    have h1 := h x (by simp)
    have h2 := flat_le f c xs fun y hy => h y (by simp [hy])
    omega
theorem RowOk.hb {L : Nat} {r : Rw'} (h : RowOk L r) {b : Bt} (hb : b ∈ r) : (heightsB b).length ≤ 24 := by
  have h1 := flat_le heightsO 4 b fun o ho => by unfold heightsO; rw [List.length_map]; exact h.room b hb o ho
  rw [h.wide b hb] at h1
  have := h.l2
  unfold heightsB
  omega
theorem RowOk.hr {L : Nat} {r : Rw'} (h : RowOk L r) : (heights r).length ≤ 576 := by
  have h1 := flat_le heightsB 24 r fun b hb => h.hb hb
  have := h.n2
  unfold heights
  omega
/-- the heights as a comprehension gives them -/
theorem hr_map (r : Rw') : (r.flatMap fun b => b.flatMap fun o => o.flatMap fun p => [D.int p.1]) = (heights r).map D.int := by
  unfold heights heightsB heightsO
  rw [List.map_flatMap]
  congr 1
  funext b
  rw [List.map_flatMap]
  congr 1
  funext o
  rw [flat_one, List.map_map]; rfl
theorem hrs_comp {sem : Sem} {β : Type} {r : Rw'} {L : Nat} (h : RowOk L r) {F : List D → St → Res β} {Q : β → St → Prop} {i1 i2 i3 i4 : Nat} (S : St → Prop) {s : St} (h0 : S s)
    (s1 : ∀ s d, S s → S { s with env := s.env.set i1 (.fz d) }) (s2 : ∀ s d, S s → S { s with env := s.env.set i2 (.fz d) }) (s3 : ∀ s d, S s → S { s with env := s.env.set i3 (.fz d) }) (s4 : ∀ s d, S s → S { s with env := s.env.set i4 (.fz d) })
    (g1 : ∀ s d, S s → (s.env.set i1 (.fz d))[i1]? = some (.fz d)) (g2 : ∀ s d, S s → (s.env.set i2 (.fz d))[i2]? = some (.fz d)) (g3 : ∀ s d e, S s → ((s.env.set i3 (.fz d)).set i4 (.fz e))[i3]? = some (.fz d)) (he : ∀ s, S s → WP (F ((heights r).map D.int) s) Q) :
    WP ((noExc (compR (compF sem (.v i1) (.cst (.bl true)) (.gfor (.v i2) (.iit (.var i1)) (.cst (.bl true)) (.gfor (.cons (.v i3) (.cons (.v i4) .nil)) (.iit (.var i2)) (.cst (.bl true)) (.gelt (.var i3))))) (r.map beatD) [] s)).bind F) Q := by
  refine wp_compB r beatD (fun b => b.flatMap fun o => o.flatMap fun p => [D.int p.1]) S h0 (by rw [hr_map, List.length_map]; have := h.hr; unfold line; omega) (fun b hb acc s q hl => ?_) fun s q => by rw [hr_map]; exact he s q
  simp only [ex_skip, ex_seq, ex_asg, ex_asgo, ex_par, ex_aug, ex_xpr, ex_ite, ex_ret, ex_retn, ex_rai, ex_fr, ex_whl, ev_var, ev_cst, ev_glb, ev_tup, ev_lst, ev_bin, ev_neg, ev_not, ev_and, ev_or, ev_ife, ev_cmp, ev_chn, ev_call, ev_prm, ev_idx, ev_slc, ev_rev, ev_isi, ev_mkt, ev_draw, ev_comp, evA_nil, evA_cons, evP_nil, evP_cons, evO_nil, evO_cons, evI_rng, evI_enu, evI_zip, evI_it, evG_elt, evG_for, bind_bind, bind_ok, bind_exc, bind_stuck, bind_ite, opt_some, ofRW_ok, ofRW_exc, wp_ok, cmp_le, cmp_ge, cmp_lt, cmp_gt, cmp_eq, cmp_ne, cmp_eqb, cmp_isb, cmp_nisb, cmp_isn, cmp_nis, is_int_int, is_int_bl, is_int_str, is_int_tup, is_int_lst, is_int_non, is_bool_int, is_bool_bl, is_bool_str, is_bool_tup, is_bool_lst, is_bool_non, is_tuple_int, is_tuple_bl, is_tuple_str, is_tuple_tup, is_tuple_lst, is_tuple_non, is_list_int, is_list_bl, is_list_str, is_list_tup, is_list_lst, is_list_non, is_str_int, is_str_bl, is_str_str, is_str_tup, is_str_lst, is_str_non, nn_int, nn_bl, nn_str, nn_tup, nn_lst, nn_non, itY_tup, it_lst, sq_tup, sq_lst, len_own, len_beat, len_row, iter_own, iter_beat, iter_row, seq_own, seq_beat, seq_row, isi_own, isi_beat, isi_row, list_own, list_row, sorted_own, isN_row, add_int, sub_int, len_tup, len_lst, tuple_lst, tuple_tup, list_lst, list_tup, stTg, List.getElem?_cons_zero, List.getElem?_cons_succ, List.set_cons_zero, List.set_cons_succ, Option.map_some, Option.bind_some, Prim.look, List.headD_cons, List.tail_cons, slots0, List.zipIdx_cons, List.zipIdx_nil, List.map_cons, List.map_nil, List.lookup_nil, List.replicate_succ, List.replicate_zero, List.append_nil, List.nil_append, List.cons_append, unsl, backsl, List.foldl_cons, List.foldl_nil, flowD, if_true, if_false, Bool.not_true, Bool.not_false, Bool.false_eq_true, Nat.le_refl, Nat.reduceLeDiff, Nat.reduceLT, and_self, true_and, and_true, compF, g1 s _ q]
  refine wp_compM b ownD (fun o => o.flatMap fun p => [D.int p.1]) S (s1 s _ q) hl (fun o ho acc s q hl => ?_)
  simp only [ex_skip, ex_seq, ex_asg, ex_asgo, ex_par, ex_aug, ex_xpr, ex_ite, ex_ret, ex_retn, ex_rai, ex_fr, ex_whl, ev_var, ev_cst, ev_glb, ev_tup, ev_lst, ev_bin, ev_neg, ev_not, ev_and, ev_or, ev_ife, ev_cmp, ev_chn, ev_call, ev_prm, ev_idx, ev_slc, ev_rev, ev_isi, ev_mkt, ev_draw, ev_comp, evA_nil, evA_cons, evP_nil, evP_cons, evO_nil, evO_cons, evI_rng, evI_enu, evI_zip, evI_it, evG_elt, evG_for, bind_bind, bind_ok, bind_exc, bind_stuck, bind_ite, opt_some, ofRW_ok, ofRW_exc, wp_ok, cmp_le, cmp_ge, cmp_lt, cmp_gt, cmp_eq, cmp_ne, cmp_eqb, cmp_isb, cmp_nisb, cmp_isn, cmp_nis, is_int_int, is_int_bl, is_int_str, is_int_tup, is_int_lst, is_int_non, is_bool_int, is_bool_bl, is_bool_str, is_bool_tup, is_bool_lst, is_bool_non, is_tuple_int, is_tuple_bl, is_tuple_str, is_tuple_tup, is_tuple_lst, is_tuple_non, is_list_int, is_list_bl, is_list_str, is_list_tup, is_list_lst, is_list_non, is_str_int, is_str_bl, is_str_str, is_str_tup, is_str_lst, is_str_non, nn_int, nn_bl, nn_str, nn_tup, nn_lst, nn_non, itY_tup, it_lst, sq_tup, sq_lst, len_own, len_beat, len_row, iter_own, iter_beat, iter_row, seq_own, seq_beat, seq_row, isi_own, isi_beat, isi_row, list_own, list_row, sorted_own, isN_row, add_int, sub_int, len_tup, len_lst, tuple_lst, tuple_tup, list_lst, list_tup, stTg, List.getElem?_cons_zero, List.getElem?_cons_succ, List.set_cons_zero, List.set_cons_succ, Option.map_some, Option.bind_some, Prim.look, List.headD_cons, List.tail_cons, slots0, List.zipIdx_cons, List.zipIdx_nil, List.map_cons, List.map_nil, List.lookup_nil, List.replicate_succ, List.replicate_zero, List.append_nil, List.nil_append, List.cons_append, unsl, backsl, List.foldl_cons, List.foldl_nil, flowD, if_true, if_false, Bool.not_true, Bool.not_false, Bool.false_eq_true, Nat.le_refl, Nat.reduceLeDiff, Nat.reduceLT, and_self, true_and, and_true, compF, g2 s _ q]
  refine wp_compM o thD (fun p => [D.int p.1]) S (s2 s _ q) hl (fun p hp acc s q hl => ?_)
  have hl : acc.length + 1 ≤ line := hl
  have hl : acc.length < line := by omega
  simp only [ex_skip, ex_seq, ex_asg, ex_asgo, ex_par, ex_aug, ex_xpr, ex_ite, ex_ret, ex_retn, ex_rai, ex_fr, ex_whl, ev_var, ev_cst, ev_glb, ev_tup, ev_lst, ev_bin, ev_neg, ev_not, ev_and, ev_or, ev_ife, ev_cmp, ev_chn, ev_call, ev_prm, ev_idx, ev_slc, ev_rev, ev_isi, ev_mkt, ev_draw, ev_comp, evA_nil, evA_cons, evP_nil, evP_cons, evO_nil, evO_cons, evI_rng, evI_enu, evI_zip, evI_it, evG_elt, evG_for, bind_bind, bind_ok, bind_exc, bind_stuck, bind_ite, opt_some, ofRW_ok, ofRW_exc, wp_ok, cmp_le, cmp_ge, cmp_lt, cmp_gt, cmp_eq, cmp_ne, cmp_eqb, cmp_isb, cmp_nisb, cmp_isn, cmp_nis, is_int_int, is_int_bl, is_int_str, is_int_tup, is_int_lst, is_int_non, is_bool_int, is_bool_bl, is_bool_str, is_bool_tup, is_bool_lst, is_bool_non, is_tuple_int, is_tuple_bl, is_tuple_str, is_tuple_tup, is_tuple_lst, is_tuple_non, is_list_int, is_list_bl, is_list_str, is_list_tup, is_list_lst, is_list_non, is_str_int, is_str_bl, is_str_str, is_str_tup, is_str_lst, is_str_non, nn_int, nn_bl, nn_str, nn_tup, nn_lst, nn_non, itY_tup, it_lst, sq_tup, sq_lst, len_own, len_beat, len_row, iter_own, iter_beat, iter_row, seq_own, seq_beat, seq_row, isi_own, isi_beat, isi_row, list_own, list_row, sorted_own, isN_row, add_int, sub_int, len_tup, len_lst, tuple_lst, tuple_tup, list_lst, list_tup, stTg, List.getElem?_cons_zero, List.getElem?_cons_succ, List.set_cons_zero, List.set_cons_succ, Option.map_some, Option.bind_some, Prim.look, List.headD_cons, List.tail_cons, slots0, List.zipIdx_cons, List.zipIdx_nil, List.map_cons, List.map_nil, List.lookup_nil, List.replicate_succ, List.replicate_zero, List.append_nil, List.nil_append, List.cons_append, unsl, backsl, List.foldl_cons, List.foldl_nil, flowD, if_true, if_false, Bool.not_true, Bool.not_false, Bool.false_eq_true, Nat.le_refl, Nat.reduceLeDiff, Nat.reduceLT, and_self, true_and, and_true, compF, thD, g3 s _ _ q, hl]
  exact s4 _ _ (s3 s _ q)
def maxL : List Int → Int
  | [] => 0
  | x :: xs => maxI x xs
theorem max_nums {ns : List Int} (h : ns ≠ []) : primD .max [.lst (ns.map D.int)] = some (.int (maxL ns)) := by
  cases ns with
  | nil => exact absurd rfl h
  | cons n ns => exact max_ints
def ballN (r : Rw') : Int := (heights r).sum / (r.length : Int)
theorem s_ball_count {k L : Nat} {r : Rw'} {w : Wd} (h : RowOk L r) : semT tbl (k + 1) 13 [rowD r] w = .ok (.int (ballN r)) [] w := by
  refine sem_eq (fn := f_ball_count) rfl rfl ?_
  have h1 := h.n1
  have h2 := h.n2
  simp only [ex_skip, ex_seq, ex_asg, ex_asgo, ex_par, ex_aug, ex_xpr, ex_ite, ex_ret, ex_retn, ex_rai, ex_fr, ex_whl, ev_var, ev_cst, ev_glb, ev_tup, ev_lst, ev_bin, ev_neg, ev_not, ev_and, ev_or, ev_ife, ev_cmp, ev_chn, ev_call, ev_prm, ev_idx, ev_slc, ev_rev, ev_isi, ev_mkt, ev_draw, ev_comp, evA_nil, evA_cons, evP_nil, evP_cons, evO_nil, evO_cons, evI_rng, evI_enu, evI_zip, evI_it, evG_elt, evG_for, bind_bind, bind_ok, bind_exc, bind_stuck, bind_ite, opt_some, ofRW_ok, ofRW_exc, wp_ok, cmp_le, cmp_ge, cmp_lt, cmp_gt, cmp_eq, cmp_ne, cmp_eqb, cmp_isb, cmp_nisb, cmp_isn, cmp_nis, is_int_int, is_int_bl, is_int_str, is_int_tup, is_int_lst, is_int_non, is_bool_int, is_bool_bl, is_bool_str, is_bool_tup, is_bool_lst, is_bool_non, is_tuple_int, is_tuple_bl, is_tuple_str, is_tuple_tup, is_tuple_lst, is_tuple_non, is_list_int, is_list_bl, is_list_str, is_list_tup, is_list_lst, is_list_non, is_str_int, is_str_bl, is_str_str, is_str_tup, is_str_lst, is_str_non, nn_int, nn_bl, nn_str, nn_tup, nn_lst, nn_non, itY_tup, it_lst, sq_tup, sq_lst, len_own, len_beat, len_row, iter_own, iter_beat, iter_row, seq_own, seq_beat, seq_row, isi_own, isi_beat, isi_row, list_own, list_row, sorted_own, isN_row, add_int, sub_int, len_tup, len_lst, tuple_lst, tuple_tup, list_lst, list_tup, stTg, List.getElem?_cons_zero, List.getElem?_cons_succ, List.set_cons_zero, List.set_cons_succ, Option.map_some, Option.bind_some, Prim.look, List.headD_cons, List.tail_cons, slots0, List.zipIdx_cons, List.zipIdx_nil, List.map_cons, List.map_nil, List.lookup_nil, List.replicate_succ, List.replicate_zero, List.append_nil, List.nil_append, List.cons_append, unsl, backsl, List.foldl_cons, List.foldl_nil, flowD, if_true, if_false, Bool.not_true, Bool.not_false, Bool.false_eq_true, Nat.le_refl, Nat.reduceLeDiff, Nat.reduceLT, and_self, true_and, and_true, f_ball_count]
  refine hrs_comp h (fun s => ∃ a b c d, s = ⟨[.fz (rowD r), a, b, c, d], w⟩) ⟨_, _, _, _, rfl⟩ ?_ ?_ ?_ ?_ ?_ ?_ ?_ (fun s q => ?_)
  any_goals (rintro s d ⟨a, b, c, d, rfl⟩; simp; done)
  any_goals (rintro s d e ⟨a, b, c, d, rfl⟩; simp; done)
  obtain ⟨a, b, c, d, rfl⟩ := q
  simp only [ex_skip, ex_seq, ex_asg, ex_asgo, ex_par, ex_aug, ex_xpr, ex_ite, ex_ret, ex_retn, ex_rai, ex_fr, ex_whl, ev_var, ev_cst, ev_glb, ev_tup, ev_lst, ev_bin, ev_neg, ev_not, ev_and, ev_or, ev_ife, ev_cmp, ev_chn, ev_call, ev_prm, ev_idx, ev_slc, ev_rev, ev_isi, ev_mkt, ev_draw, ev_comp, evA_nil, evA_cons, evP_nil, evP_cons, evO_nil, evO_cons, evI_rng, evI_enu, evI_zip, evI_it, evG_elt, evG_for, bind_bind, bind_ok, bind_exc, bind_stuck, bind_ite, opt_some, ofRW_ok, ofRW_exc, wp_ok, cmp_le, cmp_ge, cmp_lt, cmp_gt, cmp_eq, cmp_ne, cmp_eqb, cmp_isb, cmp_nisb, cmp_isn, cmp_nis, is_int_int, is_int_bl, is_int_str, is_int_tup, is_int_lst, is_int_non, is_bool_int, is_bool_bl, is_bool_str, is_bool_tup, is_bool_lst, is_bool_non, is_tuple_int, is_tuple_bl, is_tuple_str, is_tuple_tup, is_tuple_lst, is_tuple_non, is_list_int, is_list_bl, is_list_str, is_list_tup, is_list_lst, is_list_non, is_str_int, is_str_bl, is_str_str, is_str_tup, is_str_lst, is_str_non, nn_int, nn_bl, nn_str, nn_tup, nn_lst, nn_non, itY_tup, it_lst, sq_tup, sq_lst, len_own, len_beat, len_row, iter_own, iter_beat, iter_row, seq_own, seq_beat, seq_row, isi_own, isi_beat, isi_row, list_own, list_row, sorted_own, isN_row, add_int, sub_int, len_tup, len_lst, tuple_lst, tuple_tup, list_lst, list_tup, stTg, List.getElem?_cons_zero, List.getElem?_cons_succ, List.set_cons_zero, List.set_cons_succ, Option.map_some, Option.bind_some, Prim.look, List.headD_cons, List.tail_cons, slots0, List.zipIdx_cons, List.zipIdx_nil, List.map_cons, List.map_nil, List.lookup_nil, List.replicate_succ, List.replicate_zero, List.append_nil, List.nil_append, List.cons_append, unsl, backsl, List.foldl_cons, List.foldl_nil, flowD, if_true, if_false, Bool.not_true, Bool.not_false, Bool.false_eq_true, Nat.le_refl, Nat.reduceLeDiff, Nat.reduceLT, and_self, true_and, and_true, sum_ints, fdiv_int (show (0 : Int) < r.length by omega) (show (r.length : Int) < 1073741824 by omega)]
  rfl
theorem s_balls {k L : Nat} {r : Rw'} {w : Wd} (h : RowOk L r) (f : clash L r = none) : semT tbl (k + 7) 12 [rowD r] w = .ok (.int (ballN r)) [] w := by
  refine sem_eq (fn := f_balls) rfl rfl ?_
  simp only [ex_skip, ex_seq, ex_asg, ex_asgo, ex_par, ex_aug, ex_xpr, ex_ite, ex_ret, ex_retn, ex_rai, ex_fr, ex_whl, ev_var, ev_cst, ev_glb, ev_tup, ev_lst, ev_bin, ev_neg, ev_not, ev_and, ev_or, ev_ife, ev_cmp, ev_chn, ev_call, ev_prm, ev_idx, ev_slc, ev_rev, ev_isi, ev_mkt, ev_draw, ev_comp, evA_nil, evA_cons, evP_nil, evP_cons, evO_nil, evO_cons, evI_rng, evI_enu, evI_zip, evI_it, evG_elt, evG_for, bind_bind, bind_ok, bind_exc, bind_stuck, bind_ite, opt_some, ofRW_ok, ofRW_exc, wp_ok, cmp_le, cmp_ge, cmp_lt, cmp_gt, cmp_eq, cmp_ne, cmp_eqb, cmp_isb, cmp_nisb, cmp_isn, cmp_nis, is_int_int, is_int_bl, is_int_str, is_int_tup, is_int_lst, is_int_non, is_bool_int, is_bool_bl, is_bool_str, is_bool_tup, is_bool_lst, is_bool_non, is_tuple_int, is_tuple_bl, is_tuple_str, is_tuple_tup, is_tuple_lst, is_tuple_non, is_list_int, is_list_bl, is_list_str, is_list_tup, is_list_lst, is_list_non, is_str_int, is_str_bl, is_str_str, is_str_tup, is_str_lst, is_str_non, nn_int, nn_bl, nn_str, nn_tup, nn_lst, nn_non, itY_tup, it_lst, sq_tup, sq_lst, len_own, len_beat, len_row, iter_own, iter_beat, iter_row, seq_own, seq_beat, seq_row, isi_own, isi_beat, isi_row, list_own, list_row, sorted_own, isN_row, add_int, sub_int, len_tup, len_lst, tuple_lst, tuple_tup, list_lst, list_tup, stTg, List.getElem?_cons_zero, List.getElem?_cons_succ, List.set_cons_zero, List.set_cons_succ, Option.map_some, Option.bind_some, Prim.look, List.headD_cons, List.tail_cons, slots0, List.zipIdx_cons, List.zipIdx_nil, List.map_cons, List.map_nil, List.lookup_nil, List.replicate_succ, List.replicate_zero, List.append_nil, List.nil_append, List.cons_append, unsl, backsl, List.foldl_cons, List.foldl_nil, flowD, if_true, if_false, Bool.not_true, Bool.not_false, Bool.false_eq_true, Nat.le_refl, Nat.reduceLeDiff, Nat.reduceLT, and_self, true_and, and_true, f_balls, s_look_fits h f, s_ball_count h]
theorem s_highest {k L : Nat} {r : Rw'} {w : Wd} (h : RowOk L r) : semT tbl (k + 6) 15 [rowD r] w = .ok (.int (maxL (0 :: heights r))) [] w := by
  refine sem_eq (fn := f_highest) rfl rfl ?_
  simp only [ex_skip, ex_seq, ex_asg, ex_asgo, ex_par, ex_aug, ex_xpr, ex_ite, ex_ret, ex_retn, ex_rai, ex_fr, ex_whl, ev_var, ev_cst, ev_glb, ev_tup, ev_lst, ev_bin, ev_neg, ev_not, ev_and, ev_or, ev_ife, ev_cmp, ev_chn, ev_call, ev_prm, ev_idx, ev_slc, ev_rev, ev_isi, ev_mkt, ev_draw, ev_comp, evA_nil, evA_cons, evP_nil, evP_cons, evO_nil, evO_cons, evI_rng, evI_enu, evI_zip, evI_it, evG_elt, evG_for, bind_bind, bind_ok, bind_exc, bind_stuck, bind_ite, opt_some, ofRW_ok, ofRW_exc, wp_ok, cmp_le, cmp_ge, cmp_lt, cmp_gt, cmp_eq, cmp_ne, cmp_eqb, cmp_isb, cmp_nisb, cmp_isn, cmp_nis, is_int_int, is_int_bl, is_int_str, is_int_tup, is_int_lst, is_int_non, is_bool_int, is_bool_bl, is_bool_str, is_bool_tup, is_bool_lst, is_bool_non, is_tuple_int, is_tuple_bl, is_tuple_str, is_tuple_tup, is_tuple_lst, is_tuple_non, is_list_int, is_list_bl, is_list_str, is_list_tup, is_list_lst, is_list_non, is_str_int, is_str_bl, is_str_str, is_str_tup, is_str_lst, is_str_non, nn_int, nn_bl, nn_str, nn_tup, nn_lst, nn_non, itY_tup, it_lst, sq_tup, sq_lst, len_own, len_beat, len_row, iter_own, iter_beat, iter_row, seq_own, seq_beat, seq_row, isi_own, isi_beat, isi_row, list_own, list_row, sorted_own, isN_row, add_int, sub_int, len_tup, len_lst, tuple_lst, tuple_tup, list_lst, list_tup, stTg, List.getElem?_cons_zero, List.getElem?_cons_succ, List.set_cons_zero, List.set_cons_succ, Option.map_some, Option.bind_some, Prim.look, List.headD_cons, List.tail_cons, slots0, List.zipIdx_cons, List.zipIdx_nil, List.map_cons, List.map_nil, List.lookup_nil, List.replicate_succ, List.replicate_zero, List.append_nil, List.nil_append, List.cons_append, unsl, backsl, List.foldl_cons, List.foldl_nil, flowD, if_true, if_false, Bool.not_true, Bool.not_false, Bool.false_eq_true, Nat.le_refl, Nat.reduceLeDiff, Nat.reduceLT, and_self, true_and, and_true, f_highest, s_look_row h]
  refine hrs_comp h (fun s => ∃ a b c d, s = ⟨[.fz (rowD r), a, b, c, d], w⟩) ⟨_, _, _, _, rfl⟩ ?_ ?_ ?_ ?_ ?_ ?_ ?_ (fun s q => ?_)
  any_goals (rintro s d ⟨a, b, c, d, rfl⟩; simp; done)
  any_goals (rintro s d e ⟨a, b, c, d, rfl⟩; simp; done)
  obtain ⟨a, b, c, d, rfl⟩ := q
  have := h.hr
  simp only [ex_skip, ex_seq, ex_asg, ex_asgo, ex_par, ex_aug, ex_xpr, ex_ite, ex_ret, ex_retn, ex_rai, ex_fr, ex_whl, ev_var, ev_cst, ev_glb, ev_tup, ev_lst, ev_bin, ev_neg, ev_not, ev_and, ev_or, ev_ife, ev_cmp, ev_chn, ev_call, ev_prm, ev_idx, ev_slc, ev_rev, ev_isi, ev_mkt, ev_draw, ev_comp, evA_nil, evA_cons, evP_nil, evP_cons, evO_nil, evO_cons, evI_rng, evI_enu, evI_zip, evI_it, evG_elt, evG_for, bind_bind, bind_ok, bind_exc, bind_stuck, bind_ite, opt_some, ofRW_ok, ofRW_exc, wp_ok, cmp_le, cmp_ge, cmp_lt, cmp_gt, cmp_eq, cmp_ne, cmp_eqb, cmp_isb, cmp_nisb, cmp_isn, cmp_nis, is_int_int, is_int_bl, is_int_str, is_int_tup, is_int_lst, is_int_non, is_bool_int, is_bool_bl, is_bool_str, is_bool_tup, is_bool_lst, is_bool_non, is_tuple_int, is_tuple_bl, is_tuple_str, is_tuple_tup, is_tuple_lst, is_tuple_non, is_list_int, is_list_bl, is_list_str, is_list_tup, is_list_lst, is_list_non, is_str_int, is_str_bl, is_str_str, is_str_tup, is_str_lst, is_str_non, nn_int, nn_bl, nn_str, nn_tup, nn_lst, nn_non, itY_tup, it_lst, sq_tup, sq_lst, len_own, len_beat, len_row, iter_own, iter_beat, iter_row, seq_own, seq_beat, seq_row, isi_own, isi_beat, isi_row, list_own, list_row, sorted_own, isN_row, add_int, sub_int, len_tup, len_lst, tuple_lst, tuple_tup, list_lst, list_tup, stTg, List.getElem?_cons_zero, List.getElem?_cons_succ, List.set_cons_zero, List.set_cons_succ, Option.map_some, Option.bind_some, Prim.look, List.headD_cons, List.tail_cons, slots0, List.zipIdx_cons, List.zipIdx_nil, List.map_cons, List.map_nil, List.lookup_nil, List.replicate_succ, List.replicate_zero, List.append_nil, List.nil_append, List.cons_append, unsl, backsl, List.foldl_cons, List.foldl_nil, flowD, if_true, if_false, Bool.not_true, Bool.not_false, Bool.false_eq_true, Nat.le_refl, Nat.reduceLeDiff, Nat.reduceLT, and_self, true_and, and_true, cat_lst (xs := [D.int 0]) (ys := (heights r).map D.int) (by simp [line]; omega)]
  rw [show D.int 0 :: (heights r).map D.int = (0 :: heights r).map D.int from rfl, max_nums (by simp)]
  simp only [ex_skip, ex_seq, ex_asg, ex_asgo, ex_par, ex_aug, ex_xpr, ex_ite, ex_ret, ex_retn, ex_rai, ex_fr, ex_whl, ev_var, ev_cst, ev_glb, ev_tup, ev_lst, ev_bin, ev_neg, ev_not, ev_and, ev_or, ev_ife, ev_cmp, ev_chn, ev_call, ev_prm, ev_idx, ev_slc, ev_rev, ev_isi, ev_mkt, ev_draw, ev_comp, evA_nil, evA_cons, evP_nil, evP_cons, evO_nil, evO_cons, evI_rng, evI_enu, evI_zip, evI_it, evG_elt, evG_for, bind_bind, bind_ok, bind_exc, bind_stuck, bind_ite, opt_some, ofRW_ok, ofRW_exc, wp_ok, cmp_le, cmp_ge, cmp_lt, cmp_gt, cmp_eq, cmp_ne, cmp_eqb, cmp_isb, cmp_nisb, cmp_isn, cmp_nis, is_int_int, is_int_bl, is_int_str, is_int_tup, is_int_lst, is_int_non, is_bool_int, is_bool_bl, is_bool_str, is_bool_tup, is_bool_lst, is_bool_non, is_tuple_int, is_tuple_bl, is_tuple_str, is_tuple_tup, is_tuple_lst, is_tuple_non, is_list_int, is_list_bl, is_list_str, is_list_tup, is_list_lst, is_list_non, is_str_int, is_str_bl, is_str_str, is_str_tup, is_str_lst, is_str_non, nn_int, nn_bl, nn_str, nn_tup, nn_lst, nn_non, itY_tup, it_lst, sq_tup, sq_lst, len_own, len_beat, len_row, iter_own, iter_beat, iter_row, seq_own, seq_beat, seq_row, isi_own, isi_beat, isi_row, list_own, list_row, sorted_own, isN_row, add_int, sub_int, len_tup, len_lst, tuple_lst, tuple_tup, list_lst, list_tup, stTg, List.getElem?_cons_zero, List.getElem?_cons_succ, List.set_cons_zero, List.set_cons_succ, Option.map_some, Option.bind_some, Prim.look, List.headD_cons, List.tail_cons, slots0, List.zipIdx_cons, List.zipIdx_nil, List.map_cons, List.map_nil, List.lookup_nil, List.replicate_succ, List.replicate_zero, List.append_nil, List.nil_append, List.cons_append, unsl, backsl, List.foldl_cons, List.foldl_nil, flowD, if_true, if_false, Bool.not_true, Bool.not_false, Bool.false_eq_true, Nat.le_refl, Nat.reduceLeDiff, Nat.reduceLT, and_self, true_and, and_true]
def lens (r : Rw') : List Int := r.flatMap fun b => b.map fun o => (o.length : Int)
theorem lens_ne {L : Nat} {r : Rw'} (h : RowOk L r) : lens r ≠ [] := by
  intro e
  unfold lens at e
  rw [List.flatMap_eq_nil_iff] at e
  have := e _ (getD_mem r [] h.n1)
  rw [List.map_eq_nil_iff] at this
  have h1 := h.first
  rw [this] at h1
  have := h.l1
  simp at h1
  omega
theorem lens_le {L : Nat} {r : Rw'} (h : RowOk L r) : (lens r).length ≤ 144 := by
  have h1 := flat_le (fun b : Bt => b.map fun o => (o.length : Int)) 6 r fun b hb => by rw [List.length_map, h.wide b hb]; exact h.l2
  have := h.n2
  unfold lens
  omega
theorem lens_map (r : Rw') : (r.flatMap fun b => b.flatMap fun o => [D.int o.length]) = (lens r).map D.int := by
  unfold lens
  rw [List.map_flatMap]
  congr 1
  funext b
  rw [flat_one, List.map_map]; rfl
theorem s_room {k L : Nat} {r : Rw'} {w : Wd} (h : RowOk L r) : semT tbl (k + 6) 14 [rowD r] w = .ok (.int (maxL (lens r))) [] w := by
  refine sem_eq (fn := f_room) rfl rfl ?_
  simp only [ex_skip, ex_seq, ex_asg, ex_asgo, ex_par, ex_aug, ex_xpr, ex_ite, ex_ret, ex_retn, ex_rai, ex_fr, ex_whl, ev_var, ev_cst, ev_glb, ev_tup, ev_lst, ev_bin, ev_neg, ev_not, ev_and, ev_or, ev_ife, ev_cmp, ev_chn, ev_call, ev_prm, ev_idx, ev_slc, ev_rev, ev_isi, ev_mkt, ev_draw, ev_comp, evA_nil, evA_cons, evP_nil, evP_cons, evO_nil, evO_cons, evI_rng, evI_enu, evI_zip, evI_it, evG_elt, evG_for, bind_bind, bind_ok, bind_exc, bind_stuck, bind_ite, opt_some, ofRW_ok, ofRW_exc, wp_ok, cmp_le, cmp_ge, cmp_lt, cmp_gt, cmp_eq, cmp_ne, cmp_eqb, cmp_isb, cmp_nisb, cmp_isn, cmp_nis, is_int_int, is_int_bl, is_int_str, is_int_tup, is_int_lst, is_int_non, is_bool_int, is_bool_bl, is_bool_str, is_bool_tup, is_bool_lst, is_bool_non, is_tuple_int, is_tuple_bl, is_tuple_str, is_tuple_tup, is_tuple_lst, is_tuple_non, is_list_int, is_list_bl, is_list_str, is_list_tup, is_list_lst, is_list_non, is_str_int, is_str_bl, is_str_str, is_str_tup, is_str_lst, is_str_non, nn_int, nn_bl, nn_str, nn_tup, nn_lst, nn_non, itY_tup, it_lst, sq_tup, sq_lst, len_own, len_beat, len_row, iter_own, iter_beat, iter_row, seq_own, seq_beat, seq_row, isi_own, isi_beat, isi_row, list_own, list_row, sorted_own, isN_row, add_int, sub_int, len_tup, len_lst, tuple_lst, tuple_tup, list_lst, list_tup, stTg, List.getElem?_cons_zero, List.getElem?_cons_succ, List.set_cons_zero, List.set_cons_succ, Option.map_some, Option.bind_some, Prim.look, List.headD_cons, List.tail_cons, slots0, List.zipIdx_cons, List.zipIdx_nil, List.map_cons, List.map_nil, List.lookup_nil, List.replicate_succ, List.replicate_zero, List.append_nil, List.nil_append, List.cons_append, unsl, backsl, List.foldl_cons, List.foldl_nil, flowD, if_true, if_false, Bool.not_true, Bool.not_false, Bool.false_eq_true, Nat.le_refl, Nat.reduceLeDiff, Nat.reduceLT, and_self, true_and, and_true, f_room, s_look_row h]
  refine wp_compB r beatD (fun b => b.flatMap fun o => [D.int o.length]) (fun s => ∃ a b, s = ⟨[.fz (rowD r), a, b], w⟩) ⟨_, _, rfl⟩ (by rw [lens_map, List.length_map]; have := lens_le h; unfold line; omega) (fun b hb acc s q hl => ?_) fun s q => ?_
  · obtain ⟨a, b', rfl⟩ := q
    simp only [ex_skip, ex_seq, ex_asg, ex_asgo, ex_par, ex_aug, ex_xpr, ex_ite, ex_ret, ex_retn, ex_rai, ex_fr, ex_whl, ev_var, ev_cst, ev_glb, ev_tup, ev_lst, ev_bin, ev_neg, ev_not, ev_and, ev_or, ev_ife, ev_cmp, ev_chn, ev_call, ev_prm, ev_idx, ev_slc, ev_rev, ev_isi, ev_mkt, ev_draw, ev_comp, evA_nil, evA_cons, evP_nil, evP_cons, evO_nil, evO_cons, evI_rng, evI_enu, evI_zip, evI_it, evG_elt, evG_for, bind_bind, bind_ok, bind_exc, bind_stuck, bind_ite, opt_some, ofRW_ok, ofRW_exc, wp_ok, cmp_le, cmp_ge, cmp_lt, cmp_gt, cmp_eq, cmp_ne, cmp_eqb, cmp_isb, cmp_nisb, cmp_isn, cmp_nis, is_int_int, is_int_bl, is_int_str, is_int_tup, is_int_lst, is_int_non, is_bool_int, is_bool_bl, is_bool_str, is_bool_tup, is_bool_lst, is_bool_non, is_tuple_int, is_tuple_bl, is_tuple_str, is_tuple_tup, is_tuple_lst, is_tuple_non, is_list_int, is_list_bl, is_list_str, is_list_tup, is_list_lst, is_list_non, is_str_int, is_str_bl, is_str_str, is_str_tup, is_str_lst, is_str_non, nn_int, nn_bl, nn_str, nn_tup, nn_lst, nn_non, itY_tup, it_lst, sq_tup, sq_lst, len_own, len_beat, len_row, iter_own, iter_beat, iter_row, seq_own, seq_beat, seq_row, isi_own, isi_beat, isi_row, list_own, list_row, sorted_own, isN_row, add_int, sub_int, len_tup, len_lst, tuple_lst, tuple_tup, list_lst, list_tup, stTg, List.getElem?_cons_zero, List.getElem?_cons_succ, List.set_cons_zero, List.set_cons_succ, Option.map_some, Option.bind_some, Prim.look, List.headD_cons, List.tail_cons, slots0, List.zipIdx_cons, List.zipIdx_nil, List.map_cons, List.map_nil, List.lookup_nil, List.replicate_succ, List.replicate_zero, List.append_nil, List.nil_append, List.cons_append, unsl, backsl, List.foldl_cons, List.foldl_nil, flowD, if_true, if_false, Bool.not_true, Bool.not_false, Bool.false_eq_true, Nat.le_refl, Nat.reduceLeDiff, Nat.reduceLT, and_self, true_and, and_true, compF]
    refine wp_compM b ownD (fun o => [D.int o.length]) (fun s => ∃ b', s = ⟨[.fz (rowD r), .fz (beatD b), b'], w⟩) ⟨_, rfl⟩ hl (fun o ho acc s q hl => ?_) |>.imp fun a s q => ?_
    · obtain ⟨b', rfl⟩ := q
      have hl : acc.length + 1 ≤ line := hl
      have hl : acc.length < line := by omega
      simp only [ex_skip, ex_seq, ex_asg, ex_asgo, ex_par, ex_aug, ex_xpr, ex_ite, ex_ret, ex_retn, ex_rai, ex_fr, ex_whl, ev_var, ev_cst, ev_glb, ev_tup, ev_lst, ev_bin, ev_neg, ev_not, ev_and, ev_or, ev_ife, ev_cmp, ev_chn, ev_call, ev_prm, ev_idx, ev_slc, ev_rev, ev_isi, ev_mkt, ev_draw, ev_comp, evA_nil, evA_cons, evP_nil, evP_cons, evO_nil, evO_cons, evI_rng, evI_enu, evI_zip, evI_it, evG_elt, evG_for, bind_bind, bind_ok, bind_exc, bind_stuck, bind_ite, opt_some, ofRW_ok, ofRW_exc, wp_ok, cmp_le, cmp_ge, cmp_lt, cmp_gt, cmp_eq, cmp_ne, cmp_eqb, cmp_isb, cmp_nisb, cmp_isn, cmp_nis, is_int_int, is_int_bl, is_int_str, is_int_tup, is_int_lst, is_int_non, is_bool_int, is_bool_bl, is_bool_str, is_bool_tup, is_bool_lst, is_bool_non, is_tuple_int, is_tuple_bl, is_tuple_str, is_tuple_tup, is_tuple_lst, is_tuple_non, is_list_int, is_list_bl, is_list_str, is_list_tup, is_list_lst, is_list_non, is_str_int, is_str_bl, is_str_str, is_str_tup, is_str_lst, is_str_non, nn_int, nn_bl, nn_str, nn_tup, nn_lst, nn_non, itY_tup, it_lst, sq_tup, sq_lst, len_own, len_beat, len_row, iter_own, iter_beat, iter_row, seq_own, seq_beat, seq_row, isi_own, isi_beat, isi_row, list_own, list_row, sorted_own, isN_row, add_int, sub_int, len_tup, len_lst, tuple_lst, tuple_tup, list_lst, list_tup, stTg, List.getElem?_cons_zero, List.getElem?_cons_succ, List.set_cons_zero, List.set_cons_succ, Option.map_some, Option.bind_some, Prim.look, List.headD_cons, List.tail_cons, slots0, List.zipIdx_cons, List.zipIdx_nil, List.map_cons, List.map_nil, List.lookup_nil, List.replicate_succ, List.replicate_zero, List.append_nil, List.nil_append, List.cons_append, unsl, backsl, List.foldl_cons, List.foldl_nil, flowD, if_true, if_false, Bool.not_true, Bool.not_false, Bool.false_eq_true, Nat.le_refl, Nat.reduceLeDiff, Nat.reduceLT, and_self, true_and, and_true, compF, hl]
      exact ⟨_, rfl⟩
    · obtain ⟨rfl, b', rfl⟩ := q
      exact ⟨rfl, _, _, rfl⟩
  · obtain ⟨a, b, rfl⟩ := q
    rw [lens_map]
    simp only [ex_skip, ex_seq, ex_asg, ex_asgo, ex_par, ex_aug, ex_xpr, ex_ite, ex_ret, ex_retn, ex_rai, ex_fr, ex_whl, ev_var, ev_cst, ev_glb, ev_tup, ev_lst, ev_bin, ev_neg, ev_not, ev_and, ev_or, ev_ife, ev_cmp, ev_chn, ev_call, ev_prm, ev_idx, ev_slc, ev_rev, ev_isi, ev_mkt, ev_draw, ev_comp, evA_nil, evA_cons, evP_nil, evP_cons, evO_nil, evO_cons, evI_rng, evI_enu, evI_zip, evI_it, evG_elt, evG_for, bind_bind, bind_ok, bind_exc, bind_stuck, bind_ite, opt_some, ofRW_ok, ofRW_exc, wp_ok, cmp_le, cmp_ge, cmp_lt, cmp_gt, cmp_eq, cmp_ne, cmp_eqb, cmp_isb, cmp_nisb, cmp_isn, cmp_nis, is_int_int, is_int_bl, is_int_str, is_int_tup, is_int_lst, is_int_non, is_bool_int, is_bool_bl, is_bool_str, is_bool_tup, is_bool_lst, is_bool_non, is_tuple_int, is_tuple_bl, is_tuple_str, is_tuple_tup, is_tuple_lst, is_tuple_non, is_list_int, is_list_bl, is_list_str, is_list_tup, is_list_lst, is_list_non, is_str_int, is_str_bl, is_str_str, is_str_tup, is_str_lst, is_str_non, nn_int, nn_bl, nn_str, nn_tup, nn_lst, nn_non, itY_tup, it_lst, sq_tup, sq_lst, len_own, len_beat, len_row, iter_own, iter_beat, iter_row, seq_own, seq_beat, seq_row, isi_own, isi_beat, isi_row, list_own, list_row, sorted_own, isN_row, add_int, sub_int, len_tup, len_lst, tuple_lst, tuple_tup, list_lst, list_tup, stTg, List.getElem?_cons_zero, List.getElem?_cons_succ, List.set_cons_zero, List.set_cons_succ, Option.map_some, Option.bind_some, Prim.look, List.headD_cons, List.tail_cons, slots0, List.zipIdx_cons, List.zipIdx_nil, List.map_cons, List.map_nil, List.lookup_nil, List.replicate_succ, List.replicate_zero, List.append_nil, List.nil_append, List.cons_append, unsl, backsl, List.foldl_cons, List.foldl_nil, flowD, if_true, if_false, Bool.not_true, Bool.not_false, Bool.false_eq_true, Nat.le_refl, Nat.reduceLeDiff, Nat.reduceLT, and_self, true_and, and_true, max_nums (lens_ne h)]
end Hx
namespace Hx
open PySem (Str)
theorem s_w_whole {k : Nat} {i : Int} {w : Wd} : semT tbl (k + 1) 17 [.int i] w = .ok (.bl true) [] w := by
  refine sem_eq (fn := f_w_whole) rfl rfl ?_
  simp only [ex_skip, ex_seq, ex_asg, ex_asgo, ex_par, ex_aug, ex_xpr, ex_ite, ex_ret, ex_retn, ex_rai, ex_fr, ex_whl, ev_var, ev_cst, ev_glb, ev_tup, ev_lst, ev_bin, ev_neg, ev_not, ev_and, ev_or, ev_ife, ev_cmp, ev_chn, ev_call, ev_prm, ev_idx, ev_slc, ev_rev, ev_isi, ev_mkt, ev_draw, ev_comp, evA_nil, evA_cons, evP_nil, evP_cons, evO_nil, evO_cons, evI_rng, evI_enu, evI_zip, evI_it, evG_elt, evG_for, bind_bind, bind_ok, bind_exc, bind_stuck, bind_ite, opt_some, ofRW_ok, ofRW_exc, wp_ok, cmp_le, cmp_ge, cmp_lt, cmp_gt, cmp_eq, cmp_ne, cmp_eqb, cmp_isb, cmp_nisb, cmp_isn, cmp_nis, is_int_int, is_int_bl, is_int_str, is_int_tup, is_int_lst, is_int_non, is_bool_int, is_bool_bl, is_bool_str, is_bool_tup, is_bool_lst, is_bool_non, is_tuple_int, is_tuple_bl, is_tuple_str, is_tuple_tup, is_tuple_lst, is_tuple_non, is_list_int, is_list_bl, is_list_str, is_list_tup, is_list_lst, is_list_non, is_str_int, is_str_bl, is_str_str, is_str_tup, is_str_lst, is_str_non, nn_int, nn_bl, nn_str, nn_tup, nn_lst, nn_non, itY_tup, it_lst, sq_tup, sq_lst, len_own, len_beat, len_row, iter_own, iter_beat, iter_row, seq_own, seq_beat, seq_row, isi_own, isi_beat, isi_row, list_own, list_row, sorted_own, isN_row, add_int, sub_int, len_tup, len_lst, tuple_lst, tuple_tup, list_lst, list_tup, stTg, List.getElem?_cons_zero, List.getElem?_cons_succ, List.set_cons_zero, List.set_cons_succ, Option.map_some, Option.bind_some, Prim.look, List.headD_cons, List.tail_cons, slots0, List.zipIdx_cons, List.zipIdx_nil, List.map_cons, List.map_nil, List.lookup_nil, List.replicate_succ, List.replicate_zero, List.append_nil, List.nil_append, List.cons_append, unsl, backsl, List.foldl_cons, List.foldl_nil, flowD, if_true, if_false, Bool.not_true, Bool.not_false, Bool.false_eq_true, Nat.le_refl, Nat.reduceLeDiff, Nat.reduceLT, and_self, true_and, and_true, f_w_whole]
theorem s_w_is {k : Nat} {a b : Bool} {w : Wd} : semT tbl (k + 1) 18 [.bl a, .bl b] w = .ok (.bl (a == b)) [] w := by
  refine sem_eq (fn := f_w_is) rfl rfl ?_
  simp only [ex_skip, ex_seq, ex_asg, ex_asgo, ex_par, ex_aug, ex_xpr, ex_ite, ex_ret, ex_retn, ex_rai, ex_fr, ex_whl, ev_var, ev_cst, ev_glb, ev_tup, ev_lst, ev_bin, ev_neg, ev_not, ev_and, ev_or, ev_ife, ev_cmp, ev_chn, ev_call, ev_prm, ev_idx, ev_slc, ev_rev, ev_isi, ev_mkt, ev_draw, ev_comp, evA_nil, evA_cons, evP_nil, evP_cons, evO_nil, evO_cons, evI_rng, evI_enu, evI_zip, evI_it, evG_elt, evG_for, bind_bind, bind_ok, bind_exc, bind_stuck, bind_ite, opt_some, ofRW_ok, ofRW_exc, wp_ok, cmp_le, cmp_ge, cmp_lt, cmp_gt, cmp_eq, cmp_ne, cmp_eqb, cmp_isb, cmp_nisb, cmp_isn, cmp_nis, is_int_int, is_int_bl, is_int_str, is_int_tup, is_int_lst, is_int_non, is_bool_int, is_bool_bl, is_bool_str, is_bool_tup, is_bool_lst, is_bool_non, is_tuple_int, is_tuple_bl, is_tuple_str, is_tuple_tup, is_tuple_lst, is_tuple_non, is_list_int, is_list_bl, is_list_str, is_list_tup, is_list_lst, is_list_non, is_str_int, is_str_bl, is_str_str, is_str_tup, is_str_lst, is_str_non, nn_int, nn_bl, nn_str, nn_tup, nn_lst, nn_non, itY_tup, it_lst, sq_tup, sq_lst, len_own, len_beat, len_row, iter_own, iter_beat, iter_row, seq_own, seq_beat, seq_row, isi_own, isi_beat, isi_row, list_own, list_row, sorted_own, isN_row, add_int, sub_int, len_tup, len_lst, tuple_lst, tuple_tup, list_lst, list_tup, stTg, List.getElem?_cons_zero, List.getElem?_cons_succ, List.set_cons_zero, List.set_cons_succ, Option.map_some, Option.bind_some, Prim.look, List.headD_cons, List.tail_cons, slots0, List.zipIdx_cons, List.zipIdx_nil, List.map_cons, List.map_nil, List.lookup_nil, List.replicate_succ, List.replicate_zero, List.append_nil, List.nil_append, List.cons_append, unsl, backsl, List.foldl_cons, List.foldl_nil, flowD, if_true, if_false, Bool.not_true, Bool.not_false, Bool.false_eq_true, Nat.le_refl, Nat.reduceLeDiff, Nat.reduceLT, and_self, true_and, and_true, f_w_is]
theorem s_w_pick {k : Nat} {xs : List D} {w : Wd} (g : GW w) (h : xs ≠ []) (hl : xs.length ≤ 1000) : ∃ v w', semT tbl (k + 1) 16 [.town, .lst xs] w = .ok v [] w' ∧ v ∈ xs ∧ GW w' := by
  refine sem_of (P := fun v w' => v ∈ xs ∧ GW w') (fn := f_w_pick) rfl rfl ?_
  have hp := List.length_pos_iff.mpr h
  obtain ⟨r, w', e, r0, r1, g'⟩ := draw_ok (n := xs.length) g (by omega) (by omega)
  simp only [ex_skip, ex_seq, ex_asg, ex_asgo, ex_par, ex_aug, ex_xpr, ex_ite, ex_ret, ex_retn, ex_rai, ex_fr, ex_whl, ev_var, ev_cst, ev_glb, ev_tup, ev_lst, ev_bin, ev_neg, ev_not, ev_and, ev_or, ev_ife, ev_cmp, ev_chn, ev_call, ev_prm, ev_idx, ev_slc, ev_rev, ev_isi, ev_mkt, ev_draw, ev_comp, evA_nil, evA_cons, evP_nil, evP_cons, evO_nil, evO_cons, evI_rng, evI_enu, evI_zip, evI_it, evG_elt, evG_for, bind_bind, bind_ok, bind_exc, bind_stuck, bind_ite, opt_some, ofRW_ok, ofRW_exc, wp_ok, cmp_le, cmp_ge, cmp_lt, cmp_gt, cmp_eq, cmp_ne, cmp_eqb, cmp_isb, cmp_nisb, cmp_isn, cmp_nis, is_int_int, is_int_bl, is_int_str, is_int_tup, is_int_lst, is_int_non, is_bool_int, is_bool_bl, is_bool_str, is_bool_tup, is_bool_lst, is_bool_non, is_tuple_int, is_tuple_bl, is_tuple_str, is_tuple_tup, is_tuple_lst, is_tuple_non, is_list_int, is_list_bl, is_list_str, is_list_tup, is_list_lst, is_list_non, is_str_int, is_str_bl, is_str_str, is_str_tup, is_str_lst, is_str_non, nn_int, nn_bl, nn_str, nn_tup, nn_lst, nn_non, itY_tup, it_lst, sq_tup, sq_lst, len_own, len_beat, len_row, iter_own, iter_beat, iter_row, seq_own, seq_beat, seq_row, isi_own, isi_beat, isi_row, list_own, list_row, sorted_own, isN_row, add_int, sub_int, len_tup, len_lst, tuple_lst, tuple_tup, list_lst, list_tup, stTg, List.getElem?_cons_zero, List.getElem?_cons_succ, List.set_cons_zero, List.set_cons_succ, Option.map_some, Option.bind_some, Prim.look, List.headD_cons, List.tail_cons, slots0, List.zipIdx_cons, List.zipIdx_nil, List.map_cons, List.map_nil, List.lookup_nil, List.replicate_succ, List.replicate_zero, List.append_nil, List.nil_append, List.cons_append, unsl, backsl, List.foldl_cons, List.foldl_nil, flowD, if_true, if_false, Bool.not_true, Bool.not_false, Bool.false_eq_true, Nat.le_refl, Nat.reduceLeDiff, Nat.reduceLT, and_self, true_and, and_true, f_w_pick, e, getI_lst (xs := xs) (show r = (r.toNat : Int) by omega) (by omega)]
  exact ⟨List.getElem_mem _, g'⟩
def lined (r : Rw') : Rw' := r.map fun b => b.map ordT
theorem sorted_bld (o : List Th) : primD .sorted [bldO o] = some (.lst ((sortT o).map thD)) := sorted_lst
theorem s_w_lined {k : Nat} {r : Rw'} {w : Wd} (hr : r.length ≤ 1000) (hb : ∀ b ∈ r, b.length ≤ 1000) : semT tbl (k + 1) 19 [bldD r] w = .ok (rowD (lined r)) [] w := by
  refine sem_eq (fn := f_w_lined) rfl rfl ?_
  have hrd : (1 ≤ dep (rdOf tbl) (.lst .nil) ∧ 0 < 1) := by simp [dep]
  simp only [ex_skip, ex_seq, ex_asg, ex_asgo, ex_par, ex_aug, ex_xpr, ex_ite, ex_ret, ex_retn, ex_rai, ex_fr, ex_whl, ev_var, ev_cst, ev_glb, ev_tup, ev_lst, ev_bin, ev_neg, ev_not, ev_and, ev_or, ev_ife, ev_cmp, ev_chn, ev_call, ev_prm, ev_idx, ev_slc, ev_rev, ev_isi, ev_mkt, ev_draw, ev_comp, evA_nil, evA_cons, evP_nil, evP_cons, evO_nil, evO_cons, evI_rng, evI_enu, evI_zip, evI_it, evG_elt, evG_for, bind_bind, bind_ok, bind_exc, bind_stuck, bind_ite, opt_some, ofRW_ok, ofRW_exc, wp_ok, cmp_le, cmp_ge, cmp_lt, cmp_gt, cmp_eq, cmp_ne, cmp_eqb, cmp_isb, cmp_nisb, cmp_isn, cmp_nis, is_int_int, is_int_bl, is_int_str, is_int_tup, is_int_lst, is_int_non, is_bool_int, is_bool_bl, is_bool_str, is_bool_tup, is_bool_lst, is_bool_non, is_tuple_int, is_tuple_bl, is_tuple_str, is_tuple_tup, is_tuple_lst, is_tuple_non, is_list_int, is_list_bl, is_list_str, is_list_tup, is_list_lst, is_list_non, is_str_int, is_str_bl, is_str_str, is_str_tup, is_str_lst, is_str_non, nn_int, nn_bl, nn_str, nn_tup, nn_lst, nn_non, itY_tup, it_lst, sq_tup, sq_lst, len_own, len_beat, len_row, iter_own, iter_beat, iter_row, seq_own, seq_beat, seq_row, isi_own, isi_beat, isi_row, list_own, list_row, sorted_own, isN_row, add_int, sub_int, len_tup, len_lst, tuple_lst, tuple_tup, list_lst, list_tup, stTg, List.getElem?_cons_zero, List.getElem?_cons_succ, List.set_cons_zero, List.set_cons_succ, Option.map_some, Option.bind_some, Prim.look, List.headD_cons, List.tail_cons, slots0, List.zipIdx_cons, List.zipIdx_nil, List.map_cons, List.map_nil, List.lookup_nil, List.replicate_succ, List.replicate_zero, List.append_nil, List.nil_append, List.cons_append, unsl, backsl, List.foldl_cons, List.foldl_nil, flowD, if_true, if_false, Bool.not_true, Bool.not_false, Bool.false_eq_true, Nat.le_refl, Nat.reduceLeDiff, Nat.reduceLT, and_self, true_and, and_true, f_w_lined, bldD, hrd]
  refine wp_forB r bldB (fun pre s => ∃ a b, s = ⟨[.fz (.lst (r.map bldB)), .ow 1 (.lst ((lined pre).map beatD)), a, b], w⟩) ⟨_, _, rfl⟩ (fun pre b post s e q => ?_) fun s q => ?_
  · obtain ⟨a, b', rfl⟩ := q
    have hb' : b ∈ r := by rw [e]; simp
    have hl : pre.length < line := by
      have := congrArg List.length e
      simp at this
      unfold line; omega
    simp only [ex_skip, ex_seq, ex_asg, ex_asgo, ex_par, ex_aug, ex_xpr, ex_ite, ex_ret, ex_retn, ex_rai, ex_fr, ex_whl, ev_var, ev_cst, ev_glb, ev_tup, ev_lst, ev_bin, ev_neg, ev_not, ev_and, ev_or, ev_ife, ev_cmp, ev_chn, ev_call, ev_prm, ev_idx, ev_slc, ev_rev, ev_isi, ev_mkt, ev_draw, ev_comp, evA_nil, evA_cons, evP_nil, evP_cons, evO_nil, evO_cons, evI_rng, evI_enu, evI_zip, evI_it, evG_elt, evG_for, bind_bind, bind_ok, bind_exc, bind_stuck, bind_ite, opt_some, ofRW_ok, ofRW_exc, wp_ok, cmp_le, cmp_ge, cmp_lt, cmp_gt, cmp_eq, cmp_ne, cmp_eqb, cmp_isb, cmp_nisb, cmp_isn, cmp_nis, is_int_int, is_int_bl, is_int_str, is_int_tup, is_int_lst, is_int_non, is_bool_int, is_bool_bl, is_bool_str, is_bool_tup, is_bool_lst, is_bool_non, is_tuple_int, is_tuple_bl, is_tuple_str, is_tuple_tup, is_tuple_lst, is_tuple_non, is_list_int, is_list_bl, is_list_str, is_list_tup, is_list_lst, is_list_non, is_str_int, is_str_bl, is_str_str, is_str_tup, is_str_lst, is_str_non, nn_int, nn_bl, nn_str, nn_tup, nn_lst, nn_non, itY_tup, it_lst, sq_tup, sq_lst, len_own, len_beat, len_row, iter_own, iter_beat, iter_row, seq_own, seq_beat, seq_row, isi_own, isi_beat, isi_row, list_own, list_row, sorted_own, isN_row, add_int, sub_int, len_tup, len_lst, tuple_lst, tuple_tup, list_lst, list_tup, stTg, List.getElem?_cons_zero, List.getElem?_cons_succ, List.set_cons_zero, List.set_cons_succ, Option.map_some, Option.bind_some, Prim.look, List.headD_cons, List.tail_cons, slots0, List.zipIdx_cons, List.zipIdx_nil, List.map_cons, List.map_nil, List.lookup_nil, List.replicate_succ, List.replicate_zero, List.append_nil, List.nil_append, List.cons_append, unsl, backsl, List.foldl_cons, List.foldl_nil, flowD, if_true, if_false, Bool.not_true, Bool.not_false, Bool.false_eq_true, Nat.le_refl, Nat.reduceLeDiff, Nat.reduceLT, and_self, true_and, and_true, loopF, bldB]
    rw [app_own (d0 := .fz (.lst (r.map bldB))) (xs := (lined pre).map beatD) (x := beatD (b.map ordT)) (s' := ⟨[.fz (.lst (r.map bldB)), .ow 1 (.lst ((lined pre).map beatD)), .fz (.lst (b.map bldO)), b'], w⟩) rfl (by unfold lined; simp; exact hl) ?_, wp_ok]
    · refine ⟨.fz (.lst (b.map bldO)), b', ?_⟩
      simp [lined, List.map_append]
    · apply WP.eq
      simp only [ex_skip, ex_seq, ex_asg, ex_asgo, ex_par, ex_aug, ex_xpr, ex_ite, ex_ret, ex_retn, ex_rai, ex_fr, ex_whl, ev_var, ev_cst, ev_glb, ev_tup, ev_lst, ev_bin, ev_neg, ev_not, ev_and, ev_or, ev_ife, ev_cmp, ev_chn, ev_call, ev_prm, ev_idx, ev_slc, ev_rev, ev_isi, ev_mkt, ev_draw, ev_comp, evA_nil, evA_cons, evP_nil, evP_cons, evO_nil, evO_cons, evI_rng, evI_enu, evI_zip, evI_it, evG_elt, evG_for, bind_bind, bind_ok, bind_exc, bind_stuck, bind_ite, opt_some, ofRW_ok, ofRW_exc, wp_ok, cmp_le, cmp_ge, cmp_lt, cmp_gt, cmp_eq, cmp_ne, cmp_eqb, cmp_isb, cmp_nisb, cmp_isn, cmp_nis, is_int_int, is_int_bl, is_int_str, is_int_tup, is_int_lst, is_int_non, is_bool_int, is_bool_bl, is_bool_str, is_bool_tup, is_bool_lst, is_bool_non, is_tuple_int, is_tuple_bl, is_tuple_str, is_tuple_tup, is_tuple_lst, is_tuple_non, is_list_int, is_list_bl, is_list_str, is_list_tup, is_list_lst, is_list_non, is_str_int, is_str_bl, is_str_str, is_str_tup, is_str_lst, is_str_non, nn_int, nn_bl, nn_str, nn_tup, nn_lst, nn_non, itY_tup, it_lst, sq_tup, sq_lst, len_own, len_beat, len_row, iter_own, iter_beat, iter_row, seq_own, seq_beat, seq_row, isi_own, isi_beat, isi_row, list_own, list_row, sorted_own, isN_row, add_int, sub_int, len_tup, len_lst, tuple_lst, tuple_tup, list_lst, list_tup, stTg, List.getElem?_cons_zero, List.getElem?_cons_succ, List.set_cons_zero, List.set_cons_succ, Option.map_some, Option.bind_some, Prim.look, List.headD_cons, List.tail_cons, slots0, List.zipIdx_cons, List.zipIdx_nil, List.map_cons, List.map_nil, List.lookup_nil, List.replicate_succ, List.replicate_zero, List.append_nil, List.nil_append, List.cons_append, unsl, backsl, List.foldl_cons, List.foldl_nil, flowD, if_true, if_false, Bool.not_true, Bool.not_false, Bool.false_eq_true, Nat.le_refl, Nat.reduceLeDiff, Nat.reduceLT, and_self, true_and, and_true]
      refine wp_comp1 b bldO (fun o => ownD (ordT o)) (fun s => ∃ x, s = ⟨[.fz (.lst (r.map bldB)), .ow 1 (.lst ((lined pre).map beatD)), .fz (.lst (b.map bldO)), x], w⟩) ⟨_, rfl⟩ (by have := hb b hb'; unfold line; omega) (fun o ho acc s q hz => ?_) fun s q => ?_
      · obtain ⟨x, rfl⟩ := q
        simp only [ex_skip, ex_seq, ex_asg, ex_asgo, ex_par, ex_aug, ex_xpr, ex_ite, ex_ret, ex_retn, ex_rai, ex_fr, ex_whl, ev_var, ev_cst, ev_glb, ev_tup, ev_lst, ev_bin, ev_neg, ev_not, ev_and, ev_or, ev_ife, ev_cmp, ev_chn, ev_call, ev_prm, ev_idx, ev_slc, ev_rev, ev_isi, ev_mkt, ev_draw, ev_comp, evA_nil, evA_cons, evP_nil, evP_cons, evO_nil, evO_cons, evI_rng, evI_enu, evI_zip, evI_it, evG_elt, evG_for, bind_bind, bind_ok, bind_exc, bind_stuck, bind_ite, opt_some, ofRW_ok, ofRW_exc, wp_ok, cmp_le, cmp_ge, cmp_lt, cmp_gt, cmp_eq, cmp_ne, cmp_eqb, cmp_isb, cmp_nisb, cmp_isn, cmp_nis, is_int_int, is_int_bl, is_int_str, is_int_tup, is_int_lst, is_int_non, is_bool_int, is_bool_bl, is_bool_str, is_bool_tup, is_bool_lst, is_bool_non, is_tuple_int, is_tuple_bl, is_tuple_str, is_tuple_tup, is_tuple_lst, is_tuple_non, is_list_int, is_list_bl, is_list_str, is_list_tup, is_list_lst, is_list_non, is_str_int, is_str_bl, is_str_str, is_str_tup, is_str_lst, is_str_non, nn_int, nn_bl, nn_str, nn_tup, nn_lst, nn_non, itY_tup, it_lst, sq_tup, sq_lst, len_own, len_beat, len_row, iter_own, iter_beat, iter_row, seq_own, seq_beat, seq_row, isi_own, isi_beat, isi_row, list_own, list_row, sorted_own, isN_row, add_int, sub_int, len_tup, len_lst, tuple_lst, tuple_tup, list_lst, list_tup, stTg, List.getElem?_cons_zero, List.getElem?_cons_succ, List.set_cons_zero, List.set_cons_succ, Option.map_some, Option.bind_some, Prim.look, List.headD_cons, List.tail_cons, slots0, List.zipIdx_cons, List.zipIdx_nil, List.map_cons, List.map_nil, List.lookup_nil, List.replicate_succ, List.replicate_zero, List.append_nil, List.nil_append, List.cons_append, unsl, backsl, List.foldl_cons, List.foldl_nil, flowD, if_true, if_false, Bool.not_true, Bool.not_false, Bool.false_eq_true, Nat.le_refl, Nat.reduceLeDiff, Nat.reduceLT, and_self, true_and, and_true, compF, sorted_bld, rev_sorted, hz]
        exact ⟨rfl, _, rfl⟩
      · obtain ⟨x, rfl⟩ := q
        simp only [ex_skip, ex_seq, ex_asg, ex_asgo, ex_par, ex_aug, ex_xpr, ex_ite, ex_ret, ex_retn, ex_rai, ex_fr, ex_whl, ev_var, ev_cst, ev_glb, ev_tup, ev_lst, ev_bin, ev_neg, ev_not, ev_and, ev_or, ev_ife, ev_cmp, ev_chn, ev_call, ev_prm, ev_idx, ev_slc, ev_rev, ev_isi, ev_mkt, ev_draw, ev_comp, evA_nil, evA_cons, evP_nil, evP_cons, evO_nil, evO_cons, evI_rng, evI_enu, evI_zip, evI_it, evG_elt, evG_for, bind_bind, bind_ok, bind_exc, bind_stuck, bind_ite, opt_some, ofRW_ok, ofRW_exc, wp_ok, cmp_le, cmp_ge, cmp_lt, cmp_gt, cmp_eq, cmp_ne, cmp_eqb, cmp_isb, cmp_nisb, cmp_isn, cmp_nis, is_int_int, is_int_bl, is_int_str, is_int_tup, is_int_lst, is_int_non, is_bool_int, is_bool_bl, is_bool_str, is_bool_tup, is_bool_lst, is_bool_non, is_tuple_int, is_tuple_bl, is_tuple_str, is_tuple_tup, is_tuple_lst, is_tuple_non, is_list_int, is_list_bl, is_list_str, is_list_tup, is_list_lst, is_list_non, is_str_int, is_str_bl, is_str_str, is_str_tup, is_str_lst, is_str_non, nn_int, nn_bl, nn_str, nn_tup, nn_lst, nn_non, itY_tup, it_lst, sq_tup, sq_lst, len_own, len_beat, len_row, iter_own, iter_beat, iter_row, seq_own, seq_beat, seq_row, isi_own, isi_beat, isi_row, list_own, list_row, sorted_own, isN_row, add_int, sub_int, len_tup, len_lst, tuple_lst, tuple_tup, list_lst, list_tup, stTg, List.getElem?_cons_zero, List.getElem?_cons_succ, List.set_cons_zero, List.set_cons_succ, Option.map_some, Option.bind_some, Prim.look, List.headD_cons, List.tail_cons, slots0, List.zipIdx_cons, List.zipIdx_nil, List.map_cons, List.map_nil, List.lookup_nil, List.replicate_succ, List.replicate_zero, List.append_nil, List.nil_append, List.cons_append, unsl, backsl, List.foldl_cons, List.foldl_nil, flowD, if_true, if_false, Bool.not_true, Bool.not_false, Bool.false_eq_true, Nat.le_refl, Nat.reduceLeDiff, Nat.reduceLT, and_self, true_and, and_true]
        unfold beatD
        rw [List.map_map]; rfl
  · obtain ⟨a, b', rfl⟩ := q
    simp only [ex_skip, ex_seq, ex_asg, ex_asgo, ex_par, ex_aug, ex_xpr, ex_ite, ex_ret, ex_retn, ex_rai, ex_fr, ex_whl, ev_var, ev_cst, ev_glb, ev_tup, ev_lst, ev_bin, ev_neg, ev_not, ev_and, ev_or, ev_ife, ev_cmp, ev_chn, ev_call, ev_prm, ev_idx, ev_slc, ev_rev, ev_isi, ev_mkt, ev_draw, ev_comp, evA_nil, evA_cons, evP_nil, evP_cons, evO_nil, evO_cons, evI_rng, evI_enu, evI_zip, evI_it, evG_elt, evG_for, bind_bind, bind_ok, bind_exc, bind_stuck, bind_ite, opt_some, ofRW_ok, ofRW_exc, wp_ok, cmp_le, cmp_ge, cmp_lt, cmp_gt, cmp_eq, cmp_ne, cmp_eqb, cmp_isb, cmp_nisb, cmp_isn, cmp_nis, is_int_int, is_int_bl, is_int_str, is_int_tup, is_int_lst, is_int_non, is_bool_int, is_bool_bl, is_bool_str, is_bool_tup, is_bool_lst, is_bool_non, is_tuple_int, is_tuple_bl, is_tuple_str, is_tuple_tup, is_tuple_lst, is_tuple_non, is_list_int, is_list_bl, is_list_str, is_list_tup, is_list_lst, is_list_non, is_str_int, is_str_bl, is_str_str, is_str_tup, is_str_lst, is_str_non, nn_int, nn_bl, nn_str, nn_tup, nn_lst, nn_non, itY_tup, it_lst, sq_tup, sq_lst, len_own, len_beat, len_row, iter_own, iter_beat, iter_row, seq_own, seq_beat, seq_row, isi_own, isi_beat, isi_row, list_own, list_row, sorted_own, isN_row, add_int, sub_int, len_tup, len_lst, tuple_lst, tuple_tup, list_lst, list_tup, stTg, List.getElem?_cons_zero, List.getElem?_cons_succ, List.set_cons_zero, List.set_cons_succ, Option.map_some, Option.bind_some, Prim.look, List.headD_cons, List.tail_cons, slots0, List.zipIdx_cons, List.zipIdx_nil, List.map_cons, List.map_nil, List.lookup_nil, List.replicate_succ, List.replicate_zero, List.append_nil, List.nil_append, List.cons_append, unsl, backsl, List.foldl_cons, List.foldl_nil, flowD, if_true, if_false, Bool.not_true, Bool.not_false, Bool.false_eq_true, Nat.le_refl, Nat.reduceLeDiff, Nat.reduceLT, and_self, true_and, and_true]
    rfl
theorem s_w_landings {k L : Nat} {r : Rw'} {w : Wd} (h : RowOk L r) : semT tbl (k + 1) 23 [rowD r] w = .ok (tbT (landT L r)) [] w := by
  refine sem_eq (fn := f_w_landings) rfl rfl ?_
  have h1 := h.n1
  have h2 := h.n2
  have h3 := h.l1
  have h4 := h.l2
  have e0 := row_at r h.n1 (x := 0) rfl
  have e1 := h.first
  have hrd : (2 ≤ dep (rdOf tbl) (.comp [2] (.gfor (.v 2) (.irng (.cons (.prm .len (.cons (.var 0) .nil)) .nil)) (.cst (.bl true)) (.gelt (.bin .mul (.lst (.cons (.cst (.int 0)) .nil)) (.prm .len (.cons (.idx (.var 0) (.cst (.int 0))) .nil)))))) ∧ 0 < 2) := by simp [dep]
  simp only [ex_skip, ex_seq, ex_asg, ex_asgo, ex_par, ex_aug, ex_xpr, ex_ite, ex_ret, ex_retn, ex_rai, ex_fr, ex_whl, ev_var, ev_cst, ev_glb, ev_tup, ev_lst, ev_bin, ev_neg, ev_not, ev_and, ev_or, ev_ife, ev_cmp, ev_chn, ev_call, ev_prm, ev_idx, ev_slc, ev_rev, ev_isi, ev_mkt, ev_draw, ev_comp, evA_nil, evA_cons, evP_nil, evP_cons, evO_nil, evO_cons, evI_rng, evI_enu, evI_zip, evI_it, evG_elt, evG_for, bind_bind, bind_ok, bind_exc, bind_stuck, bind_ite, opt_some, ofRW_ok, ofRW_exc, wp_ok, cmp_le, cmp_ge, cmp_lt, cmp_gt, cmp_eq, cmp_ne, cmp_eqb, cmp_isb, cmp_nisb, cmp_isn, cmp_nis, is_int_int, is_int_bl, is_int_str, is_int_tup, is_int_lst, is_int_non, is_bool_int, is_bool_bl, is_bool_str, is_bool_tup, is_bool_lst, is_bool_non, is_tuple_int, is_tuple_bl, is_tuple_str, is_tuple_tup, is_tuple_lst, is_tuple_non, is_list_int, is_list_bl, is_list_str, is_list_tup, is_list_lst, is_list_non, is_str_int, is_str_bl, is_str_str, is_str_tup, is_str_lst, is_str_non, nn_int, nn_bl, nn_str, nn_tup, nn_lst, nn_non, itY_tup, it_lst, sq_tup, sq_lst, len_own, len_beat, len_row, iter_own, iter_beat, iter_row, seq_own, seq_beat, seq_row, isi_own, isi_beat, isi_row, list_own, list_row, sorted_own, isN_row, add_int, sub_int, len_tup, len_lst, tuple_lst, tuple_tup, list_lst, list_tup, stTg, List.getElem?_cons_zero, List.getElem?_cons_succ, List.set_cons_zero, List.set_cons_succ, Option.map_some, Option.bind_some, Prim.look, List.headD_cons, List.tail_cons, slots0, List.zipIdx_cons, List.zipIdx_nil, List.map_cons, List.map_nil, List.lookup_nil, List.replicate_succ, List.replicate_zero, List.append_nil, List.nil_append, List.cons_append, unsl, backsl, List.foldl_cons, List.foldl_nil, flowD, if_true, if_false, Bool.not_true, Bool.not_false, Bool.false_eq_true, Nat.le_refl, Nat.reduceLeDiff, Nat.reduceLT, and_self, true_and, and_true, f_w_landings, hrd, rng1 (n := (r.length : Int)) (by omega) (by omega), Int.toNat_natCast]
  refine wp_comp1 (List.range r.length) (fun (j : Nat) => D.int (j : Int)) (fun _ => .lst (List.replicate L (.int 0))) (fun s => ∃ x, s = ⟨[.fz (rowD r), .un, x, .un, .un, .un, .un, .un], w⟩) ⟨_, rfl⟩ (by simp [line]; omega) (fun b hb acc s q hl => ?_) fun s q => ?_
  · obtain ⟨x, rfl⟩ := q
    simp only [ex_skip, ex_seq, ex_asg, ex_asgo, ex_par, ex_aug, ex_xpr, ex_ite, ex_ret, ex_retn, ex_rai, ex_fr, ex_whl, ev_var, ev_cst, ev_glb, ev_tup, ev_lst, ev_bin, ev_neg, ev_not, ev_and, ev_or, ev_ife, ev_cmp, ev_chn, ev_call, ev_prm, ev_idx, ev_slc, ev_rev, ev_isi, ev_mkt, ev_draw, ev_comp, evA_nil, evA_cons, evP_nil, evP_cons, evO_nil, evO_cons, evI_rng, evI_enu, evI_zip, evI_it, evG_elt, evG_for, bind_bind, bind_ok, bind_exc, bind_stuck, bind_ite, opt_some, ofRW_ok, ofRW_exc, wp_ok, cmp_le, cmp_ge, cmp_lt, cmp_gt, cmp_eq, cmp_ne, cmp_eqb, cmp_isb, cmp_nisb, cmp_isn, cmp_nis, is_int_int, is_int_bl, is_int_str, is_int_tup, is_int_lst, is_int_non, is_bool_int, is_bool_bl, is_bool_str, is_bool_tup, is_bool_lst, is_bool_non, is_tuple_int, is_tuple_bl, is_tuple_str, is_tuple_tup, is_tuple_lst, is_tuple_non, is_list_int, is_list_bl, is_list_str, is_list_tup, is_list_lst, is_list_non, is_str_int, is_str_bl, is_str_str, is_str_tup, is_str_lst, is_str_non, nn_int, nn_bl, nn_str, nn_tup, nn_lst, nn_non, itY_tup, it_lst, sq_tup, sq_lst, len_own, len_beat, len_row, iter_own, iter_beat, iter_row, seq_own, seq_beat, seq_row, isi_own, isi_beat, isi_row, list_own, list_row, sorted_own, isN_row, add_int, sub_int, len_tup, len_lst, tuple_lst, tuple_tup, list_lst, list_tup, stTg, List.getElem?_cons_zero, List.getElem?_cons_succ, List.set_cons_zero, List.set_cons_succ, Option.map_some, Option.bind_some, Prim.look, List.headD_cons, List.tail_cons, slots0, List.zipIdx_cons, List.zipIdx_nil, List.map_cons, List.map_nil, List.lookup_nil, List.replicate_succ, List.replicate_zero, List.append_nil, List.nil_append, List.cons_append, unsl, backsl, List.foldl_cons, List.foldl_nil, flowD, if_true, if_false, Bool.not_true, Bool.not_false, Bool.false_eq_true, Nat.le_refl, Nat.reduceLeDiff, Nat.reduceLT, and_self, true_and, and_true, compF, e0, e1]
    rw [rep_lst (by omega) (by omega) (by unfold line; simp; omega), repL_one]
    simp only [ex_skip, ex_seq, ex_asg, ex_asgo, ex_par, ex_aug, ex_xpr, ex_ite, ex_ret, ex_retn, ex_rai, ex_fr, ex_whl, ev_var, ev_cst, ev_glb, ev_tup, ev_lst, ev_bin, ev_neg, ev_not, ev_and, ev_or, ev_ife, ev_cmp, ev_chn, ev_call, ev_prm, ev_idx, ev_slc, ev_rev, ev_isi, ev_mkt, ev_draw, ev_comp, evA_nil, evA_cons, evP_nil, evP_cons, evO_nil, evO_cons, evI_rng, evI_enu, evI_zip, evI_it, evG_elt, evG_for, bind_bind, bind_ok, bind_exc, bind_stuck, bind_ite, opt_some, ofRW_ok, ofRW_exc, wp_ok, cmp_le, cmp_ge, cmp_lt, cmp_gt, cmp_eq, cmp_ne, cmp_eqb, cmp_isb, cmp_nisb, cmp_isn, cmp_nis, is_int_int, is_int_bl, is_int_str, is_int_tup, is_int_lst, is_int_non, is_bool_int, is_bool_bl, is_bool_str, is_bool_tup, is_bool_lst, is_bool_non, is_tuple_int, is_tuple_bl, is_tuple_str, is_tuple_tup, is_tuple_lst, is_tuple_non, is_list_int, is_list_bl, is_list_str, is_list_tup, is_list_lst, is_list_non, is_str_int, is_str_bl, is_str_str, is_str_tup, is_str_lst, is_str_non, nn_int, nn_bl, nn_str, nn_tup, nn_lst, nn_non, itY_tup, it_lst, sq_tup, sq_lst, len_own, len_beat, len_row, iter_own, iter_beat, iter_row, seq_own, seq_beat, seq_row, isi_own, isi_beat, isi_row, list_own, list_row, sorted_own, isN_row, add_int, sub_int, len_tup, len_lst, tuple_lst, tuple_tup, list_lst, list_tup, stTg, List.getElem?_cons_zero, List.getElem?_cons_succ, List.set_cons_zero, List.set_cons_succ, Option.map_some, Option.bind_some, Prim.look, List.headD_cons, List.tail_cons, slots0, List.zipIdx_cons, List.zipIdx_nil, List.map_cons, List.map_nil, List.lookup_nil, List.replicate_succ, List.replicate_zero, List.append_nil, List.nil_append, List.cons_append, unsl, backsl, List.foldl_cons, List.foldl_nil, flowD, if_true, if_false, Bool.not_true, Bool.not_false, Bool.false_eq_true, Nat.le_refl, Nat.reduceLeDiff, Nat.reduceLT, and_self, true_and, and_true]
    simp [hl, wp_ok]
  · obtain ⟨x, rfl⟩ := q
    simp only [ex_skip, ex_seq, ex_asg, ex_asgo, ex_par, ex_aug, ex_xpr, ex_ite, ex_ret, ex_retn, ex_rai, ex_fr, ex_whl, ev_var, ev_cst, ev_glb, ev_tup, ev_lst, ev_bin, ev_neg, ev_not, ev_and, ev_or, ev_ife, ev_cmp, ev_chn, ev_call, ev_prm, ev_idx, ev_slc, ev_rev, ev_isi, ev_mkt, ev_draw, ev_comp, evA_nil, evA_cons, evP_nil, evP_cons, evO_nil, evO_cons, evI_rng, evI_enu, evI_zip, evI_it, evG_elt, evG_for, bind_bind, bind_ok, bind_exc, bind_stuck, bind_ite, opt_some, ofRW_ok, ofRW_exc, wp_ok, cmp_le, cmp_ge, cmp_lt, cmp_gt, cmp_eq, cmp_ne, cmp_eqb, cmp_isb, cmp_nisb, cmp_isn, cmp_nis, is_int_int, is_int_bl, is_int_str, is_int_tup, is_int_lst, is_int_non, is_bool_int, is_bool_bl, is_bool_str, is_bool_tup, is_bool_lst, is_bool_non, is_tuple_int, is_tuple_bl, is_tuple_str, is_tuple_tup, is_tuple_lst, is_tuple_non, is_list_int, is_list_bl, is_list_str, is_list_tup, is_list_lst, is_list_non, is_str_int, is_str_bl, is_str_str, is_str_tup, is_str_lst, is_str_non, nn_int, nn_bl, nn_str, nn_tup, nn_lst, nn_non, itY_tup, it_lst, sq_tup, sq_lst, len_own, len_beat, len_row, iter_own, iter_beat, iter_row, seq_own, seq_beat, seq_row, isi_own, isi_beat, isi_row, list_own, list_row, sorted_own, isN_row, add_int, sub_int, len_tup, len_lst, tuple_lst, tuple_tup, list_lst, list_tup, stTg, List.getElem?_cons_zero, List.getElem?_cons_succ, List.set_cons_zero, List.set_cons_succ, Option.map_some, Option.bind_some, Prim.look, List.headD_cons, List.tail_cons, slots0, List.zipIdx_cons, List.zipIdx_nil, List.map_cons, List.map_nil, List.lookup_nil, List.replicate_succ, List.replicate_zero, List.append_nil, List.nil_append, List.cons_append, unsl, backsl, List.foldl_cons, List.foldl_nil, flowD, if_true, if_false, Bool.not_true, Bool.not_false, Bool.false_eq_true, Nat.le_refl, Nat.reduceLeDiff, Nat.reduceLT, and_self, true_and, and_true, zero_made r.length L (xs := List.range r.length) (by simp), rng1 (n := (r.length : Int)) (by omega) (by omega), Int.toNat_natCast]
    refine wp_forB (List.range r.length) (fun (j : Nat) => D.int (j : Int)) (fun ts s => ∃ tb a b c d e, tb = ts.foldl (fun tb t => landB r.length t tb (r.getD t [])) (zero r.length L) ∧ s = ⟨[.fz (rowD r), .ow 2 (tbD tb), a, b, c, d, e, .un], w⟩) ⟨_, _, _, _, _, _, rfl, rfl⟩ (fun pre t post s e q => ?_) fun s q => ?_
    · obtain ⟨tb, a, b, c, d, e', htb, rfl⟩ := q
      obtain ⟨_, ht⟩ := range_split e
      have sh : Shape r.length L tb := htb ▸ landR_shape r pre (shape_zero _ _)
      have hb := getD_mem r [] ht
      rw [List.foldl_append, List.foldl_cons, List.foldl_nil, ← htb]
      simp only [ex_skip, ex_seq, ex_asg, ex_asgo, ex_par, ex_aug, ex_xpr, ex_ite, ex_ret, ex_retn, ex_rai, ex_fr, ex_whl, ev_var, ev_cst, ev_glb, ev_tup, ev_lst, ev_bin, ev_neg, ev_not, ev_and, ev_or, ev_ife, ev_cmp, ev_chn, ev_call, ev_prm, ev_idx, ev_slc, ev_rev, ev_isi, ev_mkt, ev_draw, ev_comp, evA_nil, evA_cons, evP_nil, evP_cons, evO_nil, evO_cons, evI_rng, evI_enu, evI_zip, evI_it, evG_elt, evG_for, bind_bind, bind_ok, bind_exc, bind_stuck, bind_ite, opt_some, ofRW_ok, ofRW_exc, wp_ok, cmp_le, cmp_ge, cmp_lt, cmp_gt, cmp_eq, cmp_ne, cmp_eqb, cmp_isb, cmp_nisb, cmp_isn, cmp_nis, is_int_int, is_int_bl, is_int_str, is_int_tup, is_int_lst, is_int_non, is_bool_int, is_bool_bl, is_bool_str, is_bool_tup, is_bool_lst, is_bool_non, is_tuple_int, is_tuple_bl, is_tuple_str, is_tuple_tup, is_tuple_lst, is_tuple_non, is_list_int, is_list_bl, is_list_str, is_list_tup, is_list_lst, is_list_non, is_str_int, is_str_bl, is_str_str, is_str_tup, is_str_lst, is_str_non, nn_int, nn_bl, nn_str, nn_tup, nn_lst, nn_non, itY_tup, it_lst, sq_tup, sq_lst, len_own, len_beat, len_row, iter_own, iter_beat, iter_row, seq_own, seq_beat, seq_row, isi_own, isi_beat, isi_row, list_own, list_row, sorted_own, isN_row, add_int, sub_int, len_tup, len_lst, tuple_lst, tuple_tup, list_lst, list_tup, stTg, List.getElem?_cons_zero, List.getElem?_cons_succ, List.set_cons_zero, List.set_cons_succ, Option.map_some, Option.bind_some, Prim.look, List.headD_cons, List.tail_cons, slots0, List.zipIdx_cons, List.zipIdx_nil, List.map_cons, List.map_nil, List.lookup_nil, List.replicate_succ, List.replicate_zero, List.append_nil, List.nil_append, List.cons_append, unsl, backsl, List.foldl_cons, List.foldl_nil, flowD, if_true, if_false, Bool.not_true, Bool.not_false, Bool.false_eq_true, Nat.le_refl, Nat.reduceLeDiff, Nat.reduceLT, and_self, true_and, and_true, loopF, row_at r ht rfl]
      refine wp_forM (r.getD t []) ownD (fun os s => ∃ tb' b c d e, tb' = os.foldl (landO r.length t) tb ∧ s = ⟨[.fz (rowD r), .ow 2 (tbD tb'), .fz (.int t), b, c, d, e, .un], w⟩) ⟨_, _, _, _, _, rfl, rfl⟩ (fun pre2 o post2 s e2 q => ?_) fun s q => ?_
      · obtain ⟨tb', b', c', d', e', htb', rfl⟩ := q
        have ho : o ∈ r.getD t [] := by rw [e2]; simp
        have sh' : Shape r.length L tb' := htb' ▸ landB_shape pre2 sh
        rw [List.foldl_append, List.foldl_cons, List.foldl_nil, ← htb']
        simp only [ex_skip, ex_seq, ex_asg, ex_asgo, ex_par, ex_aug, ex_xpr, ex_ite, ex_ret, ex_retn, ex_rai, ex_fr, ex_whl, ev_var, ev_cst, ev_glb, ev_tup, ev_lst, ev_bin, ev_neg, ev_not, ev_and, ev_or, ev_ife, ev_cmp, ev_chn, ev_call, ev_prm, ev_idx, ev_slc, ev_rev, ev_isi, ev_mkt, ev_draw, ev_comp, evA_nil, evA_cons, evP_nil, evP_cons, evO_nil, evO_cons, evI_rng, evI_enu, evI_zip, evI_it, evG_elt, evG_for, bind_bind, bind_ok, bind_exc, bind_stuck, bind_ite, opt_some, ofRW_ok, ofRW_exc, wp_ok, cmp_le, cmp_ge, cmp_lt, cmp_gt, cmp_eq, cmp_ne, cmp_eqb, cmp_isb, cmp_nisb, cmp_isn, cmp_nis, is_int_int, is_int_bl, is_int_str, is_int_tup, is_int_lst, is_int_non, is_bool_int, is_bool_bl, is_bool_str, is_bool_tup, is_bool_lst, is_bool_non, is_tuple_int, is_tuple_bl, is_tuple_str, is_tuple_tup, is_tuple_lst, is_tuple_non, is_list_int, is_list_bl, is_list_str, is_list_tup, is_list_lst, is_list_non, is_str_int, is_str_bl, is_str_str, is_str_tup, is_str_lst, is_str_non, nn_int, nn_bl, nn_str, nn_tup, nn_lst, nn_non, itY_tup, it_lst, sq_tup, sq_lst, len_own, len_beat, len_row, iter_own, iter_beat, iter_row, seq_own, seq_beat, seq_row, isi_own, isi_beat, isi_row, list_own, list_row, sorted_own, isN_row, add_int, sub_int, len_tup, len_lst, tuple_lst, tuple_tup, list_lst, list_tup, stTg, List.getElem?_cons_zero, List.getElem?_cons_succ, List.set_cons_zero, List.set_cons_succ, Option.map_some, Option.bind_some, Prim.look, List.headD_cons, List.tail_cons, slots0, List.zipIdx_cons, List.zipIdx_nil, List.map_cons, List.map_nil, List.lookup_nil, List.replicate_succ, List.replicate_zero, List.append_nil, List.nil_append, List.cons_append, unsl, backsl, List.foldl_cons, List.foldl_nil, flowD, if_true, if_false, Bool.not_true, Bool.not_false, Bool.false_eq_true, Nat.le_refl, Nat.reduceLeDiff, Nat.reduceLT, and_self, true_and, and_true, loopF]
        refine wp_forM o thD (fun ps s => ∃ tb2 b c d, tb2 = ps.foldl (fun tb p => bump tb (toT r.length t p) p.2.toNat) tb' ∧ s = ⟨[.fz (rowD r), .ow 2 (tbD tb2), .fz (.int t), .fz (ownD o), b, c, d, .un], w⟩) ⟨_, _, _, _, rfl, rfl⟩ (fun pre3 p post3 s e3 q => ?_) fun s q => ?_
        · obtain ⟨tb2, b2, c2, d2, htb2, rfl⟩ := q
          have hp : p ∈ o := by rw [e3]; simp
          have sh2 : Shape r.length L tb2 := htb2 ▸ landO_shape pre3 sh'
          rw [List.foldl_append, List.foldl_cons, List.foldl_nil, ← htb2]
          have hn : 0 < r.length := h1
          have hi := toT_lt (t := t) (p := p) hn
          have hg := h.goal _ hb o ho p hp
          have hj : p.2.toNat < L := by omega
          have hj' : p.2 = (p.2.toNat : Int) := by omega
          simp only [ex_skip, ex_seq, ex_asg, ex_asgo, ex_par, ex_aug, ex_xpr, ex_ite, ex_ret, ex_retn, ex_rai, ex_fr, ex_whl, ev_var, ev_cst, ev_glb, ev_tup, ev_lst, ev_bin, ev_neg, ev_not, ev_and, ev_or, ev_ife, ev_cmp, ev_chn, ev_call, ev_prm, ev_idx, ev_slc, ev_rev, ev_isi, ev_mkt, ev_draw, ev_comp, evA_nil, evA_cons, evP_nil, evP_cons, evO_nil, evO_cons, evI_rng, evI_enu, evI_zip, evI_it, evG_elt, evG_for, bind_bind, bind_ok, bind_exc, bind_stuck, bind_ite, opt_some, ofRW_ok, ofRW_exc, wp_ok, cmp_le, cmp_ge, cmp_lt, cmp_gt, cmp_eq, cmp_ne, cmp_eqb, cmp_isb, cmp_nisb, cmp_isn, cmp_nis, is_int_int, is_int_bl, is_int_str, is_int_tup, is_int_lst, is_int_non, is_bool_int, is_bool_bl, is_bool_str, is_bool_tup, is_bool_lst, is_bool_non, is_tuple_int, is_tuple_bl, is_tuple_str, is_tuple_tup, is_tuple_lst, is_tuple_non, is_list_int, is_list_bl, is_list_str, is_list_tup, is_list_lst, is_list_non, is_str_int, is_str_bl, is_str_str, is_str_tup, is_str_lst, is_str_non, nn_int, nn_bl, nn_str, nn_tup, nn_lst, nn_non, itY_tup, it_lst, sq_tup, sq_lst, len_own, len_beat, len_row, iter_own, iter_beat, iter_row, seq_own, seq_beat, seq_row, isi_own, isi_beat, isi_row, list_own, list_row, sorted_own, isN_row, add_int, sub_int, len_tup, len_lst, tuple_lst, tuple_tup, list_lst, list_tup, stTg, List.getElem?_cons_zero, List.getElem?_cons_succ, List.set_cons_zero, List.set_cons_succ, Option.map_some, Option.bind_some, Prim.look, List.headD_cons, List.tail_cons, slots0, List.zipIdx_cons, List.zipIdx_nil, List.map_cons, List.map_nil, List.lookup_nil, List.replicate_succ, List.replicate_zero, List.append_nil, List.nil_append, List.cons_append, unsl, backsl, List.foldl_cons, List.foldl_nil, flowD, if_true, if_false, Bool.not_true, Bool.not_false, Bool.false_eq_true, Nat.le_refl, Nat.reduceLeDiff, Nat.reduceLT, and_self, true_and, and_true, loopF, thD, mod_int (show (0 : Int) < r.length by omega), toT_eq hn]
          have g0 := tbD_row sh2 hi rfl
          have g1 := nums_at (l := tb2.getD (toT r.length t p) []) (by rw [sh2.wid _ hi]; exact hj) hj'
          rw [tb_setp sh2 hi hj rfl hj' (by simp only [ex_skip, ex_seq, ex_asg, ex_asgo, ex_par, ex_aug, ex_xpr, ex_ite, ex_ret, ex_retn, ex_rai, ex_fr, ex_whl, ev_var, ev_cst, ev_glb, ev_tup, ev_lst, ev_bin, ev_neg, ev_not, ev_and, ev_or, ev_ife, ev_cmp, ev_chn, ev_call, ev_prm, ev_idx, ev_slc, ev_rev, ev_isi, ev_mkt, ev_draw, ev_comp, evA_nil, evA_cons, evP_nil, evP_cons, evO_nil, evO_cons, evI_rng, evI_enu, evI_zip, evI_it, evG_elt, evG_for, bind_bind, bind_ok, bind_exc, bind_stuck, bind_ite, opt_some, ofRW_ok, ofRW_exc, wp_ok, cmp_le, cmp_ge, cmp_lt, cmp_gt, cmp_eq, cmp_ne, cmp_eqb, cmp_isb, cmp_nisb, cmp_isn, cmp_nis, is_int_int, is_int_bl, is_int_str, is_int_tup, is_int_lst, is_int_non, is_bool_int, is_bool_bl, is_bool_str, is_bool_tup, is_bool_lst, is_bool_non, is_tuple_int, is_tuple_bl, is_tuple_str, is_tuple_tup, is_tuple_lst, is_tuple_non, is_list_int, is_list_bl, is_list_str, is_list_tup, is_list_lst, is_list_non, is_str_int, is_str_bl, is_str_str, is_str_tup, is_str_lst, is_str_non, nn_int, nn_bl, nn_str, nn_tup, nn_lst, nn_non, itY_tup, it_lst, sq_tup, sq_lst, len_own, len_beat, len_row, iter_own, iter_beat, iter_row, seq_own, seq_beat, seq_row, isi_own, isi_beat, isi_row, list_own, list_row, sorted_own, isN_row, add_int, sub_int, len_tup, len_lst, tuple_lst, tuple_tup, list_lst, list_tup, stTg, List.getElem?_cons_zero, List.getElem?_cons_succ, List.set_cons_zero, List.set_cons_succ, Option.map_some, Option.bind_some, Prim.look, List.headD_cons, List.tail_cons, slots0, List.zipIdx_cons, List.zipIdx_nil, List.map_cons, List.map_nil, List.lookup_nil, List.replicate_succ, List.replicate_zero, List.append_nil, List.nil_append, List.cons_append, unsl, backsl, List.foldl_cons, List.foldl_nil, flowD, if_true, if_false, Bool.not_true, Bool.not_false, Bool.false_eq_true, Nat.le_refl, Nat.reduceLeDiff, Nat.reduceLT, and_self, true_and, and_true, g0, g1]; rfl) (by simp only [ex_skip, ex_seq, ex_asg, ex_asgo, ex_par, ex_aug, ex_xpr, ex_ite, ex_ret, ex_retn, ex_rai, ex_fr, ex_whl, ev_var, ev_cst, ev_glb, ev_tup, ev_lst, ev_bin, ev_neg, ev_not, ev_and, ev_or, ev_ife, ev_cmp, ev_chn, ev_call, ev_prm, ev_idx, ev_slc, ev_rev, ev_isi, ev_mkt, ev_draw, ev_comp, evA_nil, evA_cons, evP_nil, evP_cons, evO_nil, evO_cons, evI_rng, evI_enu, evI_zip, evI_it, evG_elt, evG_for, bind_bind, bind_ok, bind_exc, bind_stuck, bind_ite, opt_some, ofRW_ok, ofRW_exc, wp_ok, cmp_le, cmp_ge, cmp_lt, cmp_gt, cmp_eq, cmp_ne, cmp_eqb, cmp_isb, cmp_nisb, cmp_isn, cmp_nis, is_int_int, is_int_bl, is_int_str, is_int_tup, is_int_lst, is_int_non, is_bool_int, is_bool_bl, is_bool_str, is_bool_tup, is_bool_lst, is_bool_non, is_tuple_int, is_tuple_bl, is_tuple_str, is_tuple_tup, is_tuple_lst, is_tuple_non, is_list_int, is_list_bl, is_list_str, is_list_tup, is_list_lst, is_list_non, is_str_int, is_str_bl, is_str_str, is_str_tup, is_str_lst, is_str_non, nn_int, nn_bl, nn_str, nn_tup, nn_lst, nn_non, itY_tup, it_lst, sq_tup, sq_lst, len_own, len_beat, len_row, iter_own, iter_beat, iter_row, seq_own, seq_beat, seq_row, isi_own, isi_beat, isi_row, list_own, list_row, sorted_own, isN_row, add_int, sub_int, len_tup, len_lst, tuple_lst, tuple_tup, list_lst, list_tup, stTg, List.getElem?_cons_zero, List.getElem?_cons_succ, List.set_cons_zero, List.set_cons_succ, Option.map_some, Option.bind_some, Prim.look, List.headD_cons, List.tail_cons, slots0, List.zipIdx_cons, List.zipIdx_nil, List.map_cons, List.map_nil, List.lookup_nil, List.replicate_succ, List.replicate_zero, List.append_nil, List.nil_append, List.cons_append, unsl, backsl, List.foldl_cons, List.foldl_nil, flowD, if_true, if_false, Bool.not_true, Bool.not_false, Bool.false_eq_true, Nat.le_refl, Nat.reduceLeDiff, Nat.reduceLT, and_self, true_and, and_true]) (by simp only [ex_skip, ex_seq, ex_asg, ex_asgo, ex_par, ex_aug, ex_xpr, ex_ite, ex_ret, ex_retn, ex_rai, ex_fr, ex_whl, ev_var, ev_cst, ev_glb, ev_tup, ev_lst, ev_bin, ev_neg, ev_not, ev_and, ev_or, ev_ife, ev_cmp, ev_chn, ev_call, ev_prm, ev_idx, ev_slc, ev_rev, ev_isi, ev_mkt, ev_draw, ev_comp, evA_nil, evA_cons, evP_nil, evP_cons, evO_nil, evO_cons, evI_rng, evI_enu, evI_zip, evI_it, evG_elt, evG_for, bind_bind, bind_ok, bind_exc, bind_stuck, bind_ite, opt_some, ofRW_ok, ofRW_exc, wp_ok, cmp_le, cmp_ge, cmp_lt, cmp_gt, cmp_eq, cmp_ne, cmp_eqb, cmp_isb, cmp_nisb, cmp_isn, cmp_nis, is_int_int, is_int_bl, is_int_str, is_int_tup, is_int_lst, is_int_non, is_bool_int, is_bool_bl, is_bool_str, is_bool_tup, is_bool_lst, is_bool_non, is_tuple_int, is_tuple_bl, is_tuple_str, is_tuple_tup, is_tuple_lst, is_tuple_non, is_list_int, is_list_bl, is_list_str, is_list_tup, is_list_lst, is_list_non, is_str_int, is_str_bl, is_str_str, is_str_tup, is_str_lst, is_str_non, nn_int, nn_bl, nn_str, nn_tup, nn_lst, nn_non, itY_tup, it_lst, sq_tup, sq_lst, len_own, len_beat, len_row, iter_own, iter_beat, iter_row, seq_own, seq_beat, seq_row, isi_own, isi_beat, isi_row, list_own, list_row, sorted_own, isN_row, add_int, sub_int, len_tup, len_lst, tuple_lst, tuple_tup, list_lst, list_tup, stTg, List.getElem?_cons_zero, List.getElem?_cons_succ, List.set_cons_zero, List.set_cons_succ, Option.map_some, Option.bind_some, Prim.look, List.headD_cons, List.tail_cons, slots0, List.zipIdx_cons, List.zipIdx_nil, List.map_cons, List.map_nil, List.lookup_nil, List.replicate_succ, List.replicate_zero, List.append_nil, List.nil_append, List.cons_append, unsl, backsl, List.foldl_cons, List.foldl_nil, flowD, if_true, if_false, Bool.not_true, Bool.not_false, Bool.false_eq_true, Nat.le_refl, Nat.reduceLeDiff, Nat.reduceLT, and_self, true_and, and_true]), wp_ok]
          exact ⟨_, _, _, _, rfl, rfl⟩
        · obtain ⟨tb2, b2, c2, d2, htb2, rfl⟩ := q
          exact ⟨_, _, _, _, _, htb2, rfl⟩
      · obtain ⟨tb', b', c', d', e2, htb', rfl⟩ := q
        exact ⟨_, _, _, _, _, _, htb', rfl⟩
    · obtain ⟨tb, a, b, c, d, e', htb, rfl⟩ := q
      have sh : Shape r.length L tb := htb ▸ landT_shape L r
      simp only [ex_skip, ex_seq, ex_asg, ex_asgo, ex_par, ex_aug, ex_xpr, ex_ite, ex_ret, ex_retn, ex_rai, ex_fr, ex_whl, ev_var, ev_cst, ev_glb, ev_tup, ev_lst, ev_bin, ev_neg, ev_not, ev_and, ev_or, ev_ife, ev_cmp, ev_chn, ev_call, ev_prm, ev_idx, ev_slc, ev_rev, ev_isi, ev_mkt, ev_draw, ev_comp, evA_nil, evA_cons, evP_nil, evP_cons, evO_nil, evO_cons, evI_rng, evI_enu, evI_zip, evI_it, evG_elt, evG_for, bind_bind, bind_ok, bind_exc, bind_stuck, bind_ite, opt_some, ofRW_ok, ofRW_exc, wp_ok, cmp_le, cmp_ge, cmp_lt, cmp_gt, cmp_eq, cmp_ne, cmp_eqb, cmp_isb, cmp_nisb, cmp_isn, cmp_nis, is_int_int, is_int_bl, is_int_str, is_int_tup, is_int_lst, is_int_non, is_bool_int, is_bool_bl, is_bool_str, is_bool_tup, is_bool_lst, is_bool_non, is_tuple_int, is_tuple_bl, is_tuple_str, is_tuple_tup, is_tuple_lst, is_tuple_non, is_list_int, is_list_bl, is_list_str, is_list_tup, is_list_lst, is_list_non, is_str_int, is_str_bl, is_str_str, is_str_tup, is_str_lst, is_str_non, nn_int, nn_bl, nn_str, nn_tup, nn_lst, nn_non, itY_tup, it_lst, sq_tup, sq_lst, len_own, len_beat, len_row, iter_own, iter_beat, iter_row, seq_own, seq_beat, seq_row, isi_own, isi_beat, isi_row, list_own, list_row, sorted_own, isN_row, add_int, sub_int, len_tup, len_lst, tuple_lst, tuple_tup, list_lst, list_tup, stTg, List.getElem?_cons_zero, List.getElem?_cons_succ, List.set_cons_zero, List.set_cons_succ, Option.map_some, Option.bind_some, Prim.look, List.headD_cons, List.tail_cons, slots0, List.zipIdx_cons, List.zipIdx_nil, List.map_cons, List.map_nil, List.lookup_nil, List.replicate_succ, List.replicate_zero, List.append_nil, List.nil_append, List.cons_append, unsl, backsl, List.foldl_cons, List.foldl_nil, flowD, if_true, if_false, Bool.not_true, Bool.not_false, Bool.false_eq_true, Nat.le_refl, Nat.reduceLeDiff, Nat.reduceLT, and_self, true_and, and_true]
      unfold tbD
      simp only [ex_skip, ex_seq, ex_asg, ex_asgo, ex_par, ex_aug, ex_xpr, ex_ite, ex_ret, ex_retn, ex_rai, ex_fr, ex_whl, ev_var, ev_cst, ev_glb, ev_tup, ev_lst, ev_bin, ev_neg, ev_not, ev_and, ev_or, ev_ife, ev_cmp, ev_chn, ev_call, ev_prm, ev_idx, ev_slc, ev_rev, ev_isi, ev_mkt, ev_draw, ev_comp, evA_nil, evA_cons, evP_nil, evP_cons, evO_nil, evO_cons, evI_rng, evI_enu, evI_zip, evI_it, evG_elt, evG_for, bind_bind, bind_ok, bind_exc, bind_stuck, bind_ite, opt_some, ofRW_ok, ofRW_exc, wp_ok, cmp_le, cmp_ge, cmp_lt, cmp_gt, cmp_eq, cmp_ne, cmp_eqb, cmp_isb, cmp_nisb, cmp_isn, cmp_nis, is_int_int, is_int_bl, is_int_str, is_int_tup, is_int_lst, is_int_non, is_bool_int, is_bool_bl, is_bool_str, is_bool_tup, is_bool_lst, is_bool_non, is_tuple_int, is_tuple_bl, is_tuple_str, is_tuple_tup, is_tuple_lst, is_tuple_non, is_list_int, is_list_bl, is_list_str, is_list_tup, is_list_lst, is_list_non, is_str_int, is_str_bl, is_str_str, is_str_tup, is_str_lst, is_str_non, nn_int, nn_bl, nn_str, nn_tup, nn_lst, nn_non, itY_tup, it_lst, sq_tup, sq_lst, len_own, len_beat, len_row, iter_own, iter_beat, iter_row, seq_own, seq_beat, seq_row, isi_own, isi_beat, isi_row, list_own, list_row, sorted_own, isN_row, add_int, sub_int, len_tup, len_lst, tuple_lst, tuple_tup, list_lst, list_tup, stTg, List.getElem?_cons_zero, List.getElem?_cons_succ, List.set_cons_zero, List.set_cons_succ, Option.map_some, Option.bind_some, Prim.look, List.headD_cons, List.tail_cons, slots0, List.zipIdx_cons, List.zipIdx_nil, List.map_cons, List.map_nil, List.lookup_nil, List.replicate_succ, List.replicate_zero, List.append_nil, List.nil_append, List.cons_append, unsl, backsl, List.foldl_cons, List.foldl_nil, flowD, if_true, if_false, Bool.not_true, Bool.not_false, Bool.false_eq_true, Nat.le_refl, Nat.reduceLeDiff, Nat.reduceLT, and_self, true_and, and_true]
      refine wp_comp1 tb (fun l => D.lst (numsD l)) (fun l => .tup (numsD l)) (fun s => ∃ x, s = ⟨[.fz (rowD r), .fz (tbD tb), a, b, c, d, e', x], w⟩) ⟨_, rfl⟩ (by rw [sh.len]; unfold line; omega) (fun l hl acc s q hz => ?_) fun s q => ?_
      · obtain ⟨x, rfl⟩ := q
        simp only [ex_skip, ex_seq, ex_asg, ex_asgo, ex_par, ex_aug, ex_xpr, ex_ite, ex_ret, ex_retn, ex_rai, ex_fr, ex_whl, ev_var, ev_cst, ev_glb, ev_tup, ev_lst, ev_bin, ev_neg, ev_not, ev_and, ev_or, ev_ife, ev_cmp, ev_chn, ev_call, ev_prm, ev_idx, ev_slc, ev_rev, ev_isi, ev_mkt, ev_draw, ev_comp, evA_nil, evA_cons, evP_nil, evP_cons, evO_nil, evO_cons, evI_rng, evI_enu, evI_zip, evI_it, evG_elt, evG_for, bind_bind, bind_ok, bind_exc, bind_stuck, bind_ite, opt_some, ofRW_ok, ofRW_exc, wp_ok, cmp_le, cmp_ge, cmp_lt, cmp_gt, cmp_eq, cmp_ne, cmp_eqb, cmp_isb, cmp_nisb, cmp_isn, cmp_nis, is_int_int, is_int_bl, is_int_str, is_int_tup, is_int_lst, is_int_non, is_bool_int, is_bool_bl, is_bool_str, is_bool_tup, is_bool_lst, is_bool_non, is_tuple_int, is_tuple_bl, is_tuple_str, is_tuple_tup, is_tuple_lst, is_tuple_non, is_list_int, is_list_bl, is_list_str, is_list_tup, is_list_lst, is_list_non, is_str_int, is_str_bl, is_str_str, is_str_tup, is_str_lst, is_str_non, nn_int, nn_bl, nn_str, nn_tup, nn_lst, nn_non, itY_tup, it_lst, sq_tup, sq_lst, len_own, len_beat, len_row, iter_own, iter_beat, iter_row, seq_own, seq_beat, seq_row, isi_own, isi_beat, isi_row, list_own, list_row, sorted_own, isN_row, add_int, sub_int, len_tup, len_lst, tuple_lst, tuple_tup, list_lst, list_tup, stTg, List.getElem?_cons_zero, List.getElem?_cons_succ, List.set_cons_zero, List.set_cons_succ, Option.map_some, Option.bind_some, Prim.look, List.headD_cons, List.tail_cons, slots0, List.zipIdx_cons, List.zipIdx_nil, List.map_cons, List.map_nil, List.lookup_nil, List.replicate_succ, List.replicate_zero, List.append_nil, List.nil_append, List.cons_append, unsl, backsl, List.foldl_cons, List.foldl_nil, flowD, if_true, if_false, Bool.not_true, Bool.not_false, Bool.false_eq_true, Nat.le_refl, Nat.reduceLeDiff, Nat.reduceLT, and_self, true_and, and_true, compF]
        simp [hz, wp_ok]
      · obtain ⟨x, rfl⟩ := q
        simp only [ex_skip, ex_seq, ex_asg, ex_asgo, ex_par, ex_aug, ex_xpr, ex_ite, ex_ret, ex_retn, ex_rai, ex_fr, ex_whl, ev_var, ev_cst, ev_glb, ev_tup, ev_lst, ev_bin, ev_neg, ev_not, ev_and, ev_or, ev_ife, ev_cmp, ev_chn, ev_call, ev_prm, ev_idx, ev_slc, ev_rev, ev_isi, ev_mkt, ev_draw, ev_comp, evA_nil, evA_cons, evP_nil, evP_cons, evO_nil, evO_cons, evI_rng, evI_enu, evI_zip, evI_it, evG_elt, evG_for, bind_bind, bind_ok, bind_exc, bind_stuck, bind_ite, opt_some, ofRW_ok, ofRW_exc, wp_ok, cmp_le, cmp_ge, cmp_lt, cmp_gt, cmp_eq, cmp_ne, cmp_eqb, cmp_isb, cmp_nisb, cmp_isn, cmp_nis, is_int_int, is_int_bl, is_int_str, is_int_tup, is_int_lst, is_int_non, is_bool_int, is_bool_bl, is_bool_str, is_bool_tup, is_bool_lst, is_bool_non, is_tuple_int, is_tuple_bl, is_tuple_str, is_tuple_tup, is_tuple_lst, is_tuple_non, is_list_int, is_list_bl, is_list_str, is_list_tup, is_list_lst, is_list_non, is_str_int, is_str_bl, is_str_str, is_str_tup, is_str_lst, is_str_non, nn_int, nn_bl, nn_str, nn_tup, nn_lst, nn_non, itY_tup, it_lst, sq_tup, sq_lst, len_own, len_beat, len_row, iter_own, iter_beat, iter_row, seq_own, seq_beat, seq_row, isi_own, isi_beat, isi_row, list_own, list_row, sorted_own, isN_row, add_int, sub_int, len_tup, len_lst, tuple_lst, tuple_tup, list_lst, list_tup, stTg, List.getElem?_cons_zero, List.getElem?_cons_succ, List.set_cons_zero, List.set_cons_succ, Option.map_some, Option.bind_some, Prim.look, List.headD_cons, List.tail_cons, slots0, List.zipIdx_cons, List.zipIdx_nil, List.map_cons, List.map_nil, List.lookup_nil, List.replicate_succ, List.replicate_zero, List.append_nil, List.nil_append, List.cons_append, unsl, backsl, List.foldl_cons, List.foldl_nil, flowD, if_true, if_false, Bool.not_true, Bool.not_false, Bool.false_eq_true, Nat.le_refl, Nat.reduceLeDiff, Nat.reduceLT, and_self, true_and, and_true]
        rw [htb]; rfl
theorem s_w_clash {k L : Nat} {r : Rw'} {w : Wd} (h : RowOk L r) : semT tbl (k + 2) 24 [rowD r] w = .ok (clD L r) [] w := by
  refine sem_eq (fn := f_w_clash) rfl rfl ?_
  have h1 := h.n1
  have h2 := h.n2
  have h4 := h.l2
  have e0 := row_at r h.n1 (x := 0) rfl
  have e1 := h.first
  simp only [ex_skip, ex_seq, ex_asg, ex_asgo, ex_par, ex_aug, ex_xpr, ex_ite, ex_ret, ex_retn, ex_rai, ex_fr, ex_whl, ev_var, ev_cst, ev_glb, ev_tup, ev_lst, ev_bin, ev_neg, ev_not, ev_and, ev_or, ev_ife, ev_cmp, ev_chn, ev_call, ev_prm, ev_idx, ev_slc, ev_rev, ev_isi, ev_mkt, ev_draw, ev_comp, evA_nil, evA_cons, evP_nil, evP_cons, evO_nil, evO_cons, evI_rng, evI_enu, evI_zip, evI_it, evG_elt, evG_for, bind_bind, bind_ok, bind_exc, bind_stuck, bind_ite, opt_some, ofRW_ok, ofRW_exc, wp_ok, cmp_le, cmp_ge, cmp_lt, cmp_gt, cmp_eq, cmp_ne, cmp_eqb, cmp_isb, cmp_nisb, cmp_isn, cmp_nis, is_int_int, is_int_bl, is_int_str, is_int_tup, is_int_lst, is_int_non, is_bool_int, is_bool_bl, is_bool_str, is_bool_tup, is_bool_lst, is_bool_non, is_tuple_int, is_tuple_bl, is_tuple_str, is_tuple_tup, is_tuple_lst, is_tuple_non, is_list_int, is_list_bl, is_list_str, is_list_tup, is_list_lst, is_list_non, is_str_int, is_str_bl, is_str_str, is_str_tup, is_str_lst, is_str_non, nn_int, nn_bl, nn_str, nn_tup, nn_lst, nn_non, itY_tup, it_lst, sq_tup, sq_lst, len_own, len_beat, len_row, iter_own, iter_beat, iter_row, seq_own, seq_beat, seq_row, isi_own, isi_beat, isi_row, list_own, list_row, sorted_own, isN_row, add_int, sub_int, len_tup, len_lst, tuple_lst, tuple_tup, list_lst, list_tup, stTg, List.getElem?_cons_zero, List.getElem?_cons_succ, List.set_cons_zero, List.set_cons_succ, Option.map_some, Option.bind_some, Prim.look, List.headD_cons, List.tail_cons, slots0, List.zipIdx_cons, List.zipIdx_nil, List.map_cons, List.map_nil, List.lookup_nil, List.replicate_succ, List.replicate_zero, List.append_nil, List.nil_append, List.cons_append, unsl, backsl, List.foldl_cons, List.foldl_nil, flowD, if_true, if_false, Bool.not_true, Bool.not_false, Bool.false_eq_true, Nat.le_refl, Nat.reduceLeDiff, Nat.reduceLT, and_self, true_and, and_true, f_w_clash, s_w_landings h, rng1 (n := (r.length : Int)) (by omega) (by omega), Int.toNat_natCast]
  have sh := landT_shape L r
  refine wp_findB (List.range r.length) _ (fun t => (clashL L r t).map pD) (fun s => ∃ a b, s = ⟨[.fz (rowD r), .fz (tbT (landT L r)), a, b], w⟩) (fun s => s.w = w) ⟨_, _, rfl⟩ (fun t ht s q => ?_) (fun s q e => ?_) fun v s q e => ?_
  · obtain ⟨a, b, rfl⟩ := q
    have ht' : t < r.length := List.mem_range.mp ht
    simp only [ex_skip, ex_seq, ex_asg, ex_asgo, ex_par, ex_aug, ex_xpr, ex_ite, ex_ret, ex_retn, ex_rai, ex_fr, ex_whl, ev_var, ev_cst, ev_glb, ev_tup, ev_lst, ev_bin, ev_neg, ev_not, ev_and, ev_or, ev_ife, ev_cmp, ev_chn, ev_call, ev_prm, ev_idx, ev_slc, ev_rev, ev_isi, ev_mkt, ev_draw, ev_comp, evA_nil, evA_cons, evP_nil, evP_cons, evO_nil, evO_cons, evI_rng, evI_enu, evI_zip, evI_it, evG_elt, evG_for, bind_bind, bind_ok, bind_exc, bind_stuck, bind_ite, opt_some, ofRW_ok, ofRW_exc, wp_ok, cmp_le, cmp_ge, cmp_lt, cmp_gt, cmp_eq, cmp_ne, cmp_eqb, cmp_isb, cmp_nisb, cmp_isn, cmp_nis, is_int_int, is_int_bl, is_int_str, is_int_tup, is_int_lst, is_int_non, is_bool_int, is_bool_bl, is_bool_str, is_bool_tup, is_bool_lst, is_bool_non, is_tuple_int, is_tuple_bl, is_tuple_str, is_tuple_tup, is_tuple_lst, is_tuple_non, is_list_int, is_list_bl, is_list_str, is_list_tup, is_list_lst, is_list_non, is_str_int, is_str_bl, is_str_str, is_str_tup, is_str_lst, is_str_non, nn_int, nn_bl, nn_str, nn_tup, nn_lst, nn_non, itY_tup, it_lst, sq_tup, sq_lst, len_own, len_beat, len_row, iter_own, iter_beat, iter_row, seq_own, seq_beat, seq_row, isi_own, isi_beat, isi_row, list_own, list_row, sorted_own, isN_row, add_int, sub_int, len_tup, len_lst, tuple_lst, tuple_tup, list_lst, list_tup, stTg, List.getElem?_cons_zero, List.getElem?_cons_succ, List.set_cons_zero, List.set_cons_succ, Option.map_some, Option.bind_some, Prim.look, List.headD_cons, List.tail_cons, slots0, List.zipIdx_cons, List.zipIdx_nil, List.map_cons, List.map_nil, List.lookup_nil, List.replicate_succ, List.replicate_zero, List.append_nil, List.nil_append, List.cons_append, unsl, backsl, List.foldl_cons, List.foldl_nil, flowD, if_true, if_false, Bool.not_true, Bool.not_false, Bool.false_eq_true, Nat.le_refl, Nat.reduceLeDiff, Nat.reduceLT, and_self, true_and, and_true, loopF, e0, e1, rng1 (n := (L : Int)) (by omega) (by omega), Int.toNat_natCast]
    refine (wp_find (List.range L) _ (fun l => (if (((r.getD t []).getD l []).length : Int) = at2 (landT L r) t l then none else some (t, l)).map pD) (fun s => ∃ c, s = ⟨[.fz (rowD r), .fz (tbT (landT L r)), .fz (.int t), c], w⟩) (fun s => s.w = w) ⟨_, rfl⟩ (fun l hl s q => ?_)).imp fun fl s q => ?_
    · obtain ⟨c, rfl⟩ := q
      have hl' : l < L := List.mem_range.mp hl
      simp only [ex_skip, ex_seq, ex_asg, ex_asgo, ex_par, ex_aug, ex_xpr, ex_ite, ex_ret, ex_retn, ex_rai, ex_fr, ex_whl, ev_var, ev_cst, ev_glb, ev_tup, ev_lst, ev_bin, ev_neg, ev_not, ev_and, ev_or, ev_ife, ev_cmp, ev_chn, ev_call, ev_prm, ev_idx, ev_slc, ev_rev, ev_isi, ev_mkt, ev_draw, ev_comp, evA_nil, evA_cons, evP_nil, evP_cons, evO_nil, evO_cons, evI_rng, evI_enu, evI_zip, evI_it, evG_elt, evG_for, bind_bind, bind_ok, bind_exc, bind_stuck, bind_ite, opt_some, ofRW_ok, ofRW_exc, wp_ok, cmp_le, cmp_ge, cmp_lt, cmp_gt, cmp_eq, cmp_ne, cmp_eqb, cmp_isb, cmp_nisb, cmp_isn, cmp_nis, is_int_int, is_int_bl, is_int_str, is_int_tup, is_int_lst, is_int_non, is_bool_int, is_bool_bl, is_bool_str, is_bool_tup, is_bool_lst, is_bool_non, is_tuple_int, is_tuple_bl, is_tuple_str, is_tuple_tup, is_tuple_lst, is_tuple_non, is_list_int, is_list_bl, is_list_str, is_list_tup, is_list_lst, is_list_non, is_str_int, is_str_bl, is_str_str, is_str_tup, is_str_lst, is_str_non, nn_int, nn_bl, nn_str, nn_tup, nn_lst, nn_non, itY_tup, it_lst, sq_tup, sq_lst, len_own, len_beat, len_row, iter_own, iter_beat, iter_row, seq_own, seq_beat, seq_row, isi_own, isi_beat, isi_row, list_own, list_row, sorted_own, isN_row, add_int, sub_int, len_tup, len_lst, tuple_lst, tuple_tup, list_lst, list_tup, stTg, List.getElem?_cons_zero, List.getElem?_cons_succ, List.set_cons_zero, List.set_cons_succ, Option.map_some, Option.bind_some, Prim.look, List.headD_cons, List.tail_cons, slots0, List.zipIdx_cons, List.zipIdx_nil, List.map_cons, List.map_nil, List.lookup_nil, List.replicate_succ, List.replicate_zero, List.append_nil, List.nil_append, List.cons_append, unsl, backsl, List.foldl_cons, List.foldl_nil, flowD, if_true, if_false, Bool.not_true, Bool.not_false, Bool.false_eq_true, Nat.le_refl, Nat.reduceLeDiff, Nat.reduceLT, and_self, true_and, and_true, loopF, row_at r ht' rfl, beat_at (r.getD t []) (j := l) (by rw [h.beat ht']; exact hl') rfl, tbT_row sh ht' rfl, nums_at_t (l := (landT L r).getD t []) (j := l) (by rw [sh.wid t ht']; exact hl') rfl]
      by_cases e : (((r.getD t []).getD l []).length : Int) = at2 (landT L r) t l
      · rw [if_pos e]
        unfold at2 at e
        simp only [ex_skip, ex_seq, ex_asg, ex_asgo, ex_par, ex_aug, ex_xpr, ex_ite, ex_ret, ex_retn, ex_rai, ex_fr, ex_whl, ev_var, ev_cst, ev_glb, ev_tup, ev_lst, ev_bin, ev_neg, ev_not, ev_and, ev_or, ev_ife, ev_cmp, ev_chn, ev_call, ev_prm, ev_idx, ev_slc, ev_rev, ev_isi, ev_mkt, ev_draw, ev_comp, evA_nil, evA_cons, evP_nil, evP_cons, evO_nil, evO_cons, evI_rng, evI_enu, evI_zip, evI_it, evG_elt, evG_for, bind_bind, bind_ok, bind_exc, bind_stuck, bind_ite, opt_some, ofRW_ok, ofRW_exc, wp_ok, cmp_le, cmp_ge, cmp_lt, cmp_gt, cmp_eq, cmp_ne, cmp_eqb, cmp_isb, cmp_nisb, cmp_isn, cmp_nis, is_int_int, is_int_bl, is_int_str, is_int_tup, is_int_lst, is_int_non, is_bool_int, is_bool_bl, is_bool_str, is_bool_tup, is_bool_lst, is_bool_non, is_tuple_int, is_tuple_bl, is_tuple_str, is_tuple_tup, is_tuple_lst, is_tuple_non, is_list_int, is_list_bl, is_list_str, is_list_tup, is_list_lst, is_list_non, is_str_int, is_str_bl, is_str_str, is_str_tup, is_str_lst, is_str_non, nn_int, nn_bl, nn_str, nn_tup, nn_lst, nn_non, itY_tup, it_lst, sq_tup, sq_lst, len_own, len_beat, len_row, iter_own, iter_beat, iter_row, seq_own, seq_beat, seq_row, isi_own, isi_beat, isi_row, list_own, list_row, sorted_own, isN_row, add_int, sub_int, len_tup, len_lst, tuple_lst, tuple_tup, list_lst, list_tup, stTg, List.getElem?_cons_zero, List.getElem?_cons_succ, List.set_cons_zero, List.set_cons_succ, Option.map_some, Option.bind_some, Prim.look, List.headD_cons, List.tail_cons, slots0, List.zipIdx_cons, List.zipIdx_nil, List.map_cons, List.map_nil, List.lookup_nil, List.replicate_succ, List.replicate_zero, List.append_nil, List.nil_append, List.cons_append, unsl, backsl, List.foldl_cons, List.foldl_nil, flowD, if_true, if_false, Bool.not_true, Bool.not_false, Bool.false_eq_true, Nat.le_refl, Nat.reduceLeDiff, Nat.reduceLT, and_self, true_and, and_true, e, decide_true]
        simp [wp_ok]
      · rw [if_neg e]
        unfold at2 at e
        simp only [ex_skip, ex_seq, ex_asg, ex_asgo, ex_par, ex_aug, ex_xpr, ex_ite, ex_ret, ex_retn, ex_rai, ex_fr, ex_whl, ev_var, ev_cst, ev_glb, ev_tup, ev_lst, ev_bin, ev_neg, ev_not, ev_and, ev_or, ev_ife, ev_cmp, ev_chn, ev_call, ev_prm, ev_idx, ev_slc, ev_rev, ev_isi, ev_mkt, ev_draw, ev_comp, evA_nil, evA_cons, evP_nil, evP_cons, evO_nil, evO_cons, evI_rng, evI_enu, evI_zip, evI_it, evG_elt, evG_for, bind_bind, bind_ok, bind_exc, bind_stuck, bind_ite, opt_some, ofRW_ok, ofRW_exc, wp_ok, cmp_le, cmp_ge, cmp_lt, cmp_gt, cmp_eq, cmp_ne, cmp_eqb, cmp_isb, cmp_nisb, cmp_isn, cmp_nis, is_int_int, is_int_bl, is_int_str, is_int_tup, is_int_lst, is_int_non, is_bool_int, is_bool_bl, is_bool_str, is_bool_tup, is_bool_lst, is_bool_non, is_tuple_int, is_tuple_bl, is_tuple_str, is_tuple_tup, is_tuple_lst, is_tuple_non, is_list_int, is_list_bl, is_list_str, is_list_tup, is_list_lst, is_list_non, is_str_int, is_str_bl, is_str_str, is_str_tup, is_str_lst, is_str_non, nn_int, nn_bl, nn_str, nn_tup, nn_lst, nn_non, itY_tup, it_lst, sq_tup, sq_lst, len_own, len_beat, len_row, iter_own, iter_beat, iter_row, seq_own, seq_beat, seq_row, isi_own, isi_beat, isi_row, list_own, list_row, sorted_own, isN_row, add_int, sub_int, len_tup, len_lst, tuple_lst, tuple_tup, list_lst, list_tup, stTg, List.getElem?_cons_zero, List.getElem?_cons_succ, List.set_cons_zero, List.set_cons_succ, Option.map_some, Option.bind_some, Prim.look, List.headD_cons, List.tail_cons, slots0, List.zipIdx_cons, List.zipIdx_nil, List.map_cons, List.map_nil, List.lookup_nil, List.replicate_succ, List.replicate_zero, List.append_nil, List.nil_append, List.cons_append, unsl, backsl, List.foldl_cons, List.foldl_nil, flowD, if_true, if_false, Bool.not_true, Bool.not_false, Bool.false_eq_true, Nat.le_refl, Nat.reduceLeDiff, Nat.reduceLT, and_self, true_and, and_true, decide_eq_false e]
        simp [wp_ok, pD]
    · rw [find_map] at q
      show match (clashL L r t).map pD with
        | none => _
        | some v => _
      unfold clashL
      generalize (List.range L).findSome? (fun l => if (((r.getD t []).getD l []).length : Int) = at2 (landT L r) t l then none else some (t, l)) = z at q ⊢
      cases z with
      | none => obtain ⟨rfl, c, rfl⟩ := q; exact ⟨rfl, _, _, rfl⟩
      | some p => exact q
  · obtain ⟨a, b, rfl⟩ := q
    rw [find_map] at e
    simp only [ex_skip, ex_seq, ex_asg, ex_asgo, ex_par, ex_aug, ex_xpr, ex_ite, ex_ret, ex_retn, ex_rai, ex_fr, ex_whl, ev_var, ev_cst, ev_glb, ev_tup, ev_lst, ev_bin, ev_neg, ev_not, ev_and, ev_or, ev_ife, ev_cmp, ev_chn, ev_call, ev_prm, ev_idx, ev_slc, ev_rev, ev_isi, ev_mkt, ev_draw, ev_comp, evA_nil, evA_cons, evP_nil, evP_cons, evO_nil, evO_cons, evI_rng, evI_enu, evI_zip, evI_it, evG_elt, evG_for, bind_bind, bind_ok, bind_exc, bind_stuck, bind_ite, opt_some, ofRW_ok, ofRW_exc, wp_ok, cmp_le, cmp_ge, cmp_lt, cmp_gt, cmp_eq, cmp_ne, cmp_eqb, cmp_isb, cmp_nisb, cmp_isn, cmp_nis, is_int_int, is_int_bl, is_int_str, is_int_tup, is_int_lst, is_int_non, is_bool_int, is_bool_bl, is_bool_str, is_bool_tup, is_bool_lst, is_bool_non, is_tuple_int, is_tuple_bl, is_tuple_str, is_tuple_tup, is_tuple_lst, is_tuple_non, is_list_int, is_list_bl, is_list_str, is_list_tup, is_list_lst, is_list_non, is_str_int, is_str_bl, is_str_str, is_str_tup, is_str_lst, is_str_non, nn_int, nn_bl, nn_str, nn_tup, nn_lst, nn_non, itY_tup, it_lst, sq_tup, sq_lst, len_own, len_beat, len_row, iter_own, iter_beat, iter_row, seq_own, seq_beat, seq_row, isi_own, isi_beat, isi_row, list_own, list_row, sorted_own, isN_row, add_int, sub_int, len_tup, len_lst, tuple_lst, tuple_tup, list_lst, list_tup, stTg, List.getElem?_cons_zero, List.getElem?_cons_succ, List.set_cons_zero, List.set_cons_succ, Option.map_some, Option.bind_some, Prim.look, List.headD_cons, List.tail_cons, slots0, List.zipIdx_cons, List.zipIdx_nil, List.map_cons, List.map_nil, List.lookup_nil, List.replicate_succ, List.replicate_zero, List.append_nil, List.nil_append, List.cons_append, unsl, backsl, List.foldl_cons, List.foldl_nil, flowD, if_true, if_false, Bool.not_true, Bool.not_false, Bool.false_eq_true, Nat.le_refl, Nat.reduceLeDiff, Nat.reduceLT, and_self, true_and, and_true]
    unfold clD clash
    rw [Option.map_eq_none_iff.mp e]; rfl
  · rw [find_map] at e
    simp only [ex_skip, ex_seq, ex_asg, ex_asgo, ex_par, ex_aug, ex_xpr, ex_ite, ex_ret, ex_retn, ex_rai, ex_fr, ex_whl, ev_var, ev_cst, ev_glb, ev_tup, ev_lst, ev_bin, ev_neg, ev_not, ev_and, ev_or, ev_ife, ev_cmp, ev_chn, ev_call, ev_prm, ev_idx, ev_slc, ev_rev, ev_isi, ev_mkt, ev_draw, ev_comp, evA_nil, evA_cons, evP_nil, evP_cons, evO_nil, evO_cons, evI_rng, evI_enu, evI_zip, evI_it, evG_elt, evG_for, bind_bind, bind_ok, bind_exc, bind_stuck, bind_ite, opt_some, ofRW_ok, ofRW_exc, wp_ok, cmp_le, cmp_ge, cmp_lt, cmp_gt, cmp_eq, cmp_ne, cmp_eqb, cmp_isb, cmp_nisb, cmp_isn, cmp_nis, is_int_int, is_int_bl, is_int_str, is_int_tup, is_int_lst, is_int_non, is_bool_int, is_bool_bl, is_bool_str, is_bool_tup, is_bool_lst, is_bool_non, is_tuple_int, is_tuple_bl, is_tuple_str, is_tuple_tup, is_tuple_lst, is_tuple_non, is_list_int, is_list_bl, is_list_str, is_list_tup, is_list_lst, is_list_non, is_str_int, is_str_bl, is_str_str, is_str_tup, is_str_lst, is_str_non, nn_int, nn_bl, nn_str, nn_tup, nn_lst, nn_non, itY_tup, it_lst, sq_tup, sq_lst, len_own, len_beat, len_row, iter_own, iter_beat, iter_row, seq_own, seq_beat, seq_row, isi_own, isi_beat, isi_row, list_own, list_row, sorted_own, isN_row, add_int, sub_int, len_tup, len_lst, tuple_lst, tuple_tup, list_lst, list_tup, stTg, List.getElem?_cons_zero, List.getElem?_cons_succ, List.set_cons_zero, List.set_cons_succ, Option.map_some, Option.bind_some, Prim.look, List.headD_cons, List.tail_cons, slots0, List.zipIdx_cons, List.zipIdx_nil, List.map_cons, List.map_nil, List.lookup_nil, List.replicate_succ, List.replicate_zero, List.append_nil, List.nil_append, List.cons_append, unsl, backsl, List.foldl_cons, List.foldl_nil, flowD, if_true, if_false, Bool.not_true, Bool.not_false, Bool.false_eq_true, Nat.le_refl, Nat.reduceLeDiff, Nat.reduceLT, and_self, true_and, and_true]
    refine ⟨?_, q⟩
    unfold clD clash
    rw [e]; rfl
theorem s_w_balls {k L : Nat} {r : Rw'} {w : Wd} (h : RowOk L r) : semT tbl (k + 1) 25 [rowD r] w = .ok (.int (ballN r)) [] w := by
  refine sem_eq (fn := f_w_balls) rfl rfl ?_
  have h1 := h.n1
  have h2 := h.n2
  simp only [ex_skip, ex_seq, ex_asg, ex_asgo, ex_par, ex_aug, ex_xpr, ex_ite, ex_ret, ex_retn, ex_rai, ex_fr, ex_whl, ev_var, ev_cst, ev_glb, ev_tup, ev_lst, ev_bin, ev_neg, ev_not, ev_and, ev_or, ev_ife, ev_cmp, ev_chn, ev_call, ev_prm, ev_idx, ev_slc, ev_rev, ev_isi, ev_mkt, ev_draw, ev_comp, evA_nil, evA_cons, evP_nil, evP_cons, evO_nil, evO_cons, evI_rng, evI_enu, evI_zip, evI_it, evG_elt, evG_for, bind_bind, bind_ok, bind_exc, bind_stuck, bind_ite, opt_some, ofRW_ok, ofRW_exc, wp_ok, cmp_le, cmp_ge, cmp_lt, cmp_gt, cmp_eq, cmp_ne, cmp_eqb, cmp_isb, cmp_nisb, cmp_isn, cmp_nis, is_int_int, is_int_bl, is_int_str, is_int_tup, is_int_lst, is_int_non, is_bool_int, is_bool_bl, is_bool_str, is_bool_tup, is_bool_lst, is_bool_non, is_tuple_int, is_tuple_bl, is_tuple_str, is_tuple_tup, is_tuple_lst, is_tuple_non, is_list_int, is_list_bl, is_list_str, is_list_tup, is_list_lst, is_list_non, is_str_int, is_str_bl, is_str_str, is_str_tup, is_str_lst, is_str_non, nn_int, nn_bl, nn_str, nn_tup, nn_lst, nn_non, itY_tup, it_lst, sq_tup, sq_lst, len_own, len_beat, len_row, iter_own, iter_beat, iter_row, seq_own, seq_beat, seq_row, isi_own, isi_beat, isi_row, list_own, list_row, sorted_own, isN_row, add_int, sub_int, len_tup, len_lst, tuple_lst, tuple_tup, list_lst, list_tup, stTg, List.getElem?_cons_zero, List.getElem?_cons_succ, List.set_cons_zero, List.set_cons_succ, Option.map_some, Option.bind_some, Prim.look, List.headD_cons, List.tail_cons, slots0, List.zipIdx_cons, List.zipIdx_nil, List.map_cons, List.map_nil, List.lookup_nil, List.replicate_succ, List.replicate_zero, List.append_nil, List.nil_append, List.cons_append, unsl, backsl, List.foldl_cons, List.foldl_nil, flowD, if_true, if_false, Bool.not_true, Bool.not_false, Bool.false_eq_true, Nat.le_refl, Nat.reduceLeDiff, Nat.reduceLT, and_self, true_and, and_true, f_w_balls]
  refine wp_forB r beatD (fun pre s => ∃ a b c d, s = ⟨[.fz (rowD r), .fz (.int (heights pre).sum), a, b, c, d], w⟩) ⟨_, _, _, _, rfl⟩ (fun pre b post s e q => ?_) fun s q => ?_
  · obtain ⟨x1, x2, x3, x4, rfl⟩ := q
    have hb : b ∈ r := by rw [e]; simp
    simp only [ex_skip, ex_seq, ex_asg, ex_asgo, ex_par, ex_aug, ex_xpr, ex_ite, ex_ret, ex_retn, ex_rai, ex_fr, ex_whl, ev_var, ev_cst, ev_glb, ev_tup, ev_lst, ev_bin, ev_neg, ev_not, ev_and, ev_or, ev_ife, ev_cmp, ev_chn, ev_call, ev_prm, ev_idx, ev_slc, ev_rev, ev_isi, ev_mkt, ev_draw, ev_comp, evA_nil, evA_cons, evP_nil, evP_cons, evO_nil, evO_cons, evI_rng, evI_enu, evI_zip, evI_it, evG_elt, evG_for, bind_bind, bind_ok, bind_exc, bind_stuck, bind_ite, opt_some, ofRW_ok, ofRW_exc, wp_ok, cmp_le, cmp_ge, cmp_lt, cmp_gt, cmp_eq, cmp_ne, cmp_eqb, cmp_isb, cmp_nisb, cmp_isn, cmp_nis, is_int_int, is_int_bl, is_int_str, is_int_tup, is_int_lst, is_int_non, is_bool_int, is_bool_bl, is_bool_str, is_bool_tup, is_bool_lst, is_bool_non, is_tuple_int, is_tuple_bl, is_tuple_str, is_tuple_tup, is_tuple_lst, is_tuple_non, is_list_int, is_list_bl, is_list_str, is_list_tup, is_list_lst, is_list_non, is_str_int, is_str_bl, is_str_str, is_str_tup, is_str_lst, is_str_non, nn_int, nn_bl, nn_str, nn_tup, nn_lst, nn_non, itY_tup, it_lst, sq_tup, sq_lst, len_own, len_beat, len_row, iter_own, iter_beat, iter_row, seq_own, seq_beat, seq_row, isi_own, isi_beat, isi_row, list_own, list_row, sorted_own, isN_row, add_int, sub_int, len_tup, len_lst, tuple_lst, tuple_tup, list_lst, list_tup, stTg, List.getElem?_cons_zero, List.getElem?_cons_succ, List.set_cons_zero, List.set_cons_succ, Option.map_some, Option.bind_some, Prim.look, List.headD_cons, List.tail_cons, slots0, List.zipIdx_cons, List.zipIdx_nil, List.map_cons, List.map_nil, List.lookup_nil, List.replicate_succ, List.replicate_zero, List.append_nil, List.nil_append, List.cons_append, unsl, backsl, List.foldl_cons, List.foldl_nil, flowD, if_true, if_false, Bool.not_true, Bool.not_false, Bool.false_eq_true, Nat.le_refl, Nat.reduceLeDiff, Nat.reduceLT, and_self, true_and, and_true, loopF]
    refine wp_forM b ownD (fun pre2 s => ∃ b' c d, s = ⟨[.fz (rowD r), .fz (.int ((heights pre).sum + (heightsB pre2).sum)), .fz (beatD b), b', c, d], w⟩) ⟨x2, x3, x4, by simp [heightsB]⟩ (fun pre2 o post2 s e2 q => ?_) fun s q => ?_
    · obtain ⟨y2, y3, y4, rfl⟩ := q
      have ho : o ∈ b := by rw [e2]; simp
      simp only [ex_skip, ex_seq, ex_asg, ex_asgo, ex_par, ex_aug, ex_xpr, ex_ite, ex_ret, ex_retn, ex_rai, ex_fr, ex_whl, ev_var, ev_cst, ev_glb, ev_tup, ev_lst, ev_bin, ev_neg, ev_not, ev_and, ev_or, ev_ife, ev_cmp, ev_chn, ev_call, ev_prm, ev_idx, ev_slc, ev_rev, ev_isi, ev_mkt, ev_draw, ev_comp, evA_nil, evA_cons, evP_nil, evP_cons, evO_nil, evO_cons, evI_rng, evI_enu, evI_zip, evI_it, evG_elt, evG_for, bind_bind, bind_ok, bind_exc, bind_stuck, bind_ite, opt_some, ofRW_ok, ofRW_exc, wp_ok, cmp_le, cmp_ge, cmp_lt, cmp_gt, cmp_eq, cmp_ne, cmp_eqb, cmp_isb, cmp_nisb, cmp_isn, cmp_nis, is_int_int, is_int_bl, is_int_str, is_int_tup, is_int_lst, is_int_non, is_bool_int, is_bool_bl, is_bool_str, is_bool_tup, is_bool_lst, is_bool_non, is_tuple_int, is_tuple_bl, is_tuple_str, is_tuple_tup, is_tuple_lst, is_tuple_non, is_list_int, is_list_bl, is_list_str, is_list_tup, is_list_lst, is_list_non, is_str_int, is_str_bl, is_str_str, is_str_tup, is_str_lst, is_str_non, nn_int, nn_bl, nn_str, nn_tup, nn_lst, nn_non, itY_tup, it_lst, sq_tup, sq_lst, len_own, len_beat, len_row, iter_own, iter_beat, iter_row, seq_own, seq_beat, seq_row, isi_own, isi_beat, isi_row, list_own, list_row, sorted_own, isN_row, add_int, sub_int, len_tup, len_lst, tuple_lst, tuple_tup, list_lst, list_tup, stTg, List.getElem?_cons_zero, List.getElem?_cons_succ, List.set_cons_zero, List.set_cons_succ, Option.map_some, Option.bind_some, Prim.look, List.headD_cons, List.tail_cons, slots0, List.zipIdx_cons, List.zipIdx_nil, List.map_cons, List.map_nil, List.lookup_nil, List.replicate_succ, List.replicate_zero, List.append_nil, List.nil_append, List.cons_append, unsl, backsl, List.foldl_cons, List.foldl_nil, flowD, if_true, if_false, Bool.not_true, Bool.not_false, Bool.false_eq_true, Nat.le_refl, Nat.reduceLeDiff, Nat.reduceLT, and_self, true_and, and_true, loopF]
      refine wp_comp1 o thD (fun p => .int p.1) (fun s => ∃ c d, s = ⟨[.fz (rowD r), .fz (.int ((heights pre).sum + (heightsB pre2).sum)), .fz (beatD b), .fz (ownD o), c, d], w⟩) ⟨_, _, rfl⟩ (by have := h.room b hb o ho; unfold line; omega) (fun p hp acc s q hz => ?_) fun s q => ?_
      · obtain ⟨z1, z2, rfl⟩ := q
        simp only [ex_skip, ex_seq, ex_asg, ex_asgo, ex_par, ex_aug, ex_xpr, ex_ite, ex_ret, ex_retn, ex_rai, ex_fr, ex_whl, ev_var, ev_cst, ev_glb, ev_tup, ev_lst, ev_bin, ev_neg, ev_not, ev_and, ev_or, ev_ife, ev_cmp, ev_chn, ev_call, ev_prm, ev_idx, ev_slc, ev_rev, ev_isi, ev_mkt, ev_draw, ev_comp, evA_nil, evA_cons, evP_nil, evP_cons, evO_nil, evO_cons, evI_rng, evI_enu, evI_zip, evI_it, evG_elt, evG_for, bind_bind, bind_ok, bind_exc, bind_stuck, bind_ite, opt_some, ofRW_ok, ofRW_exc, wp_ok, cmp_le, cmp_ge, cmp_lt, cmp_gt, cmp_eq, cmp_ne, cmp_eqb, cmp_isb, cmp_nisb, cmp_isn, cmp_nis, is_int_int, is_int_bl, is_int_str, is_int_tup, is_int_lst, is_int_non, is_bool_int, is_bool_bl, is_bool_str, is_bool_tup, is_bool_lst, is_bool_non, is_tuple_int, is_tuple_bl, is_tuple_str, is_tuple_tup, is_tuple_lst, is_tuple_non, is_list_int, is_list_bl, is_list_str, is_list_tup, is_list_lst, is_list_non, is_str_int, is_str_bl, is_str_str, is_str_tup, is_str_lst, is_str_non, nn_int, nn_bl, nn_str, nn_tup, nn_lst, nn_non, itY_tup, it_lst, sq_tup, sq_lst, len_own, len_beat, len_row, iter_own, iter_beat, iter_row, seq_own, seq_beat, seq_row, isi_own, isi_beat, isi_row, list_own, list_row, sorted_own, isN_row, add_int, sub_int, len_tup, len_lst, tuple_lst, tuple_tup, list_lst, list_tup, stTg, List.getElem?_cons_zero, List.getElem?_cons_succ, List.set_cons_zero, List.set_cons_succ, Option.map_some, Option.bind_some, Prim.look, List.headD_cons, List.tail_cons, slots0, List.zipIdx_cons, List.zipIdx_nil, List.map_cons, List.map_nil, List.lookup_nil, List.replicate_succ, List.replicate_zero, List.append_nil, List.nil_append, List.cons_append, unsl, backsl, List.foldl_cons, List.foldl_nil, flowD, if_true, if_false, Bool.not_true, Bool.not_false, Bool.false_eq_true, Nat.le_refl, Nat.reduceLeDiff, Nat.reduceLT, and_self, true_and, and_true, compF, thD, hz]
        exact ⟨_, _, rfl⟩
      · obtain ⟨z1, z2, rfl⟩ := q
        rw [show (o.map fun p => D.int p.1) = (heightsO o).map D.int by unfold heightsO; rw [List.map_map]; rfl]
        simp only [ex_skip, ex_seq, ex_asg, ex_asgo, ex_par, ex_aug, ex_xpr, ex_ite, ex_ret, ex_retn, ex_rai, ex_fr, ex_whl, ev_var, ev_cst, ev_glb, ev_tup, ev_lst, ev_bin, ev_neg, ev_not, ev_and, ev_or, ev_ife, ev_cmp, ev_chn, ev_call, ev_prm, ev_idx, ev_slc, ev_rev, ev_isi, ev_mkt, ev_draw, ev_comp, evA_nil, evA_cons, evP_nil, evP_cons, evO_nil, evO_cons, evI_rng, evI_enu, evI_zip, evI_it, evG_elt, evG_for, bind_bind, bind_ok, bind_exc, bind_stuck, bind_ite, opt_some, ofRW_ok, ofRW_exc, wp_ok, cmp_le, cmp_ge, cmp_lt, cmp_gt, cmp_eq, cmp_ne, cmp_eqb, cmp_isb, cmp_nisb, cmp_isn, cmp_nis, is_int_int, is_int_bl, is_int_str, is_int_tup, is_int_lst, is_int_non, is_bool_int, is_bool_bl, is_bool_str, is_bool_tup, is_bool_lst, is_bool_non, is_tuple_int, is_tuple_bl, is_tuple_str, is_tuple_tup, is_tuple_lst, is_tuple_non, is_list_int, is_list_bl, is_list_str, is_list_tup, is_list_lst, is_list_non, is_str_int, is_str_bl, is_str_str, is_str_tup, is_str_lst, is_str_non, nn_int, nn_bl, nn_str, nn_tup, nn_lst, nn_non, itY_tup, it_lst, sq_tup, sq_lst, len_own, len_beat, len_row, iter_own, iter_beat, iter_row, seq_own, seq_beat, seq_row, isi_own, isi_beat, isi_row, list_own, list_row, sorted_own, isN_row, add_int, sub_int, len_tup, len_lst, tuple_lst, tuple_tup, list_lst, list_tup, stTg, List.getElem?_cons_zero, List.getElem?_cons_succ, List.set_cons_zero, List.set_cons_succ, Option.map_some, Option.bind_some, Prim.look, List.headD_cons, List.tail_cons, slots0, List.zipIdx_cons, List.zipIdx_nil, List.map_cons, List.map_nil, List.lookup_nil, List.replicate_succ, List.replicate_zero, List.append_nil, List.nil_append, List.cons_append, unsl, backsl, List.foldl_cons, List.foldl_nil, flowD, if_true, if_false, Bool.not_true, Bool.not_false, Bool.false_eq_true, Nat.le_refl, Nat.reduceLeDiff, Nat.reduceLT, and_self, true_and, and_true, sum_ints]
        refine ⟨.fz (ownD o), y3, y4, ?_⟩
        rw [show heightsB (pre2 ++ [o]) = heightsB pre2 ++ heightsO o by simp [heightsB], List.sum_append, Int.add_assoc]
    · obtain ⟨y2, y3, y4, rfl⟩ := q
      refine ⟨.fz (beatD b), y2, y3, y4, ?_⟩
      rw [show heights (pre ++ [b]) = heights pre ++ heightsB b by simp [heights], List.sum_append]
  · obtain ⟨x1, x2, x3, x4, rfl⟩ := q
    simp only [ex_skip, ex_seq, ex_asg, ex_asgo, ex_par, ex_aug, ex_xpr, ex_ite, ex_ret, ex_retn, ex_rai, ex_fr, ex_whl, ev_var, ev_cst, ev_glb, ev_tup, ev_lst, ev_bin, ev_neg, ev_not, ev_and, ev_or, ev_ife, ev_cmp, ev_chn, ev_call, ev_prm, ev_idx, ev_slc, ev_rev, ev_isi, ev_mkt, ev_draw, ev_comp, evA_nil, evA_cons, evP_nil, evP_cons, evO_nil, evO_cons, evI_rng, evI_enu, evI_zip, evI_it, evG_elt, evG_for, bind_bind, bind_ok, bind_exc, bind_stuck, bind_ite, opt_some, ofRW_ok, ofRW_exc, wp_ok, cmp_le, cmp_ge, cmp_lt, cmp_gt, cmp_eq, cmp_ne, cmp_eqb, cmp_isb, cmp_nisb, cmp_isn, cmp_nis, is_int_int, is_int_bl, is_int_str, is_int_tup, is_int_lst, is_int_non, is_bool_int, is_bool_bl, is_bool_str, is_bool_tup, is_bool_lst, is_bool_non, is_tuple_int, is_tuple_bl, is_tuple_str, is_tuple_tup, is_tuple_lst, is_tuple_non, is_list_int, is_list_bl, is_list_str, is_list_tup, is_list_lst, is_list_non, is_str_int, is_str_bl, is_str_str, is_str_tup, is_str_lst, is_str_non, nn_int, nn_bl, nn_str, nn_tup, nn_lst, nn_non, itY_tup, it_lst, sq_tup, sq_lst, len_own, len_beat, len_row, iter_own, iter_beat, iter_row, seq_own, seq_beat, seq_row, isi_own, isi_beat, isi_row, list_own, list_row, sorted_own, isN_row, add_int, sub_int, len_tup, len_lst, tuple_lst, tuple_tup, list_lst, list_tup, stTg, List.getElem?_cons_zero, List.getElem?_cons_succ, List.set_cons_zero, List.set_cons_succ, Option.map_some, Option.bind_some, Prim.look, List.headD_cons, List.tail_cons, slots0, List.zipIdx_cons, List.zipIdx_nil, List.map_cons, List.map_nil, List.lookup_nil, List.replicate_succ, List.replicate_zero, List.append_nil, List.nil_append, List.cons_append, unsl, backsl, List.foldl_cons, List.foldl_nil, flowD, if_true, if_false, Bool.not_true, Bool.not_false, Bool.false_eq_true, Nat.le_refl, Nat.reduceLeDiff, Nat.reduceLT, and_self, true_and, and_true, fdiv_int (show (0 : Int) < r.length by omega) (show (r.length : Int) < 1073741824 by omega)]
    rfl
end Hx
namespace Hx
open PySem (Str)
theorem at_landO {n L t : Nat} (hn : 0 < n) {q : Nat × Nat} : ∀ (o : List Th) {tb : Tb}, Shape n L tb → (∀ p ∈ o, 0 ≤ p.2 ∧ p.2 < (L : Int)) → at2 (landO n t tb o) q.1 q.2 = at2 tb q.1 q.2 + (cO n t q o : Int)
  | [], tb, _, _ => by simp [landO, cO]
  | p :: o, tb, h, hg => by
    have hp := hg p (by simp)
    show at2 (landO n t (bump tb (toT n t p) p.2.toNat) o) q.1 q.2 = _
    rw [at_landO hn o (h.bump _ _) (fun x hx => hg x (by simp [hx])), at_bump h (toT_lt hn) (by omega)]
    unfold cO
    rw [List.countP_cons]
    unfold hit
    by_cases e : toT n t p = q.1 ∧ p.2.toNat = q.2
    · simp [e]; omega
    · simp [e]
theorem at_landB {n L t : Nat} (hn : 0 < n) {q : Nat × Nat} : ∀ (b : Bt) {tb : Tb}, Shape n L tb → (∀ o ∈ b, ∀ p ∈ o, 0 ≤ p.2 ∧ p.2 < (L : Int)) → at2 (landB n t tb b) q.1 q.2 = at2 tb q.1 q.2 + (cB n t q b : Int)
  | [], tb, _, _ => by simp [landB, cB]
  | o :: b, tb, h, hg => by
    show at2 (landB n t (landO n t tb o) b) q.1 q.2 = _
    rw [at_landB hn b (landO_shape o h) (fun x hx => hg x (by simp [hx])), at_landO hn o h (hg o (by simp))]
    unfold cB
    rw [List.map_cons, List.sum_cons]
    omega
theorem at_landR {n L : Nat} (hn : 0 < n) {q : Nat × Nat} (r : Rw') : ∀ (ts : List Nat) {tb : Tb}, Shape n L tb → (∀ t ∈ ts, ∀ o ∈ r.getD t [], ∀ p ∈ o, 0 ≤ p.2 ∧ p.2 < (L : Int)) →
    at2 (ts.foldl (fun tb t => landB n t tb (r.getD t [])) tb) q.1 q.2 = at2 tb q.1 q.2 + (((ts.map fun t => cB n t q (r.getD t [])).sum : Nat) : Int)
  | [], tb, _, _ => by simp
  | t :: ts, tb, h, hg => by
    rw [List.foldl_cons, at_landR hn r ts (landB_shape _ h) (fun x hx => hg x (by simp [hx])), at_landB hn _ h (hg t (by simp)), List.map_cons, List.sum_cons]
    omega
theorem at_zero (n L : Nat) (i j : Nat) : at2 (zero n L) i j = 0 := by
  unfold at2 zero
  simp only [List.getD_eq_getElem?_getD, List.getElem?_replicate]
  split
  · rw [Option.getD_some, List.getElem?_replicate]
    split <;> rfl
  · rfl
theorem at_landT {L : Nat} {r : Rw'} (hn : 0 < r.length) (hg : ∀ b ∈ r, ∀ o ∈ b, ∀ p ∈ o, 0 ≤ p.2 ∧ p.2 < (L : Int)) (q : Nat × Nat) : at2 (landT L r) q.1 q.2 = (cR r.length r q : Int) := by
  unfold landT
  rw [at_landR hn r _ (shape_zero _ _) (fun t ht => hg _ (getD_mem r [] (List.mem_range.mp ht))), at_zero, Int.zero_add]
  rfl
theorem clash_none {L : Nat} {r : Rw'} : clash L r = none ↔ ∀ t < r.length, ∀ l < L, ((own2 r t l).length : Int) = at2 (landT L r) t l := by
  unfold clash
  rw [List.findSome?_eq_none_iff]
  constructor
  · intro h t ht l hl
    have h1 := h t (List.mem_range.mpr ht)
    unfold clashL at h1
    rw [List.findSome?_eq_none_iff] at h1
    have h2 := h1 l (List.mem_range.mpr hl)
    split at h2
    · assumption
    · cases h2
  · intro h t ht
    unfold clashL
    rw [List.findSome?_eq_none_iff]
    intro l hl
    exact if_pos (h t (List.mem_range.mp ht) l (List.mem_range.mp hl))
theorem lined_len (r : Rw') : (lined r).length = r.length := by unfold lined; rw [List.length_map]
theorem lined_get (r : Rw') (t : Nat) : (lined r).getD t [] = (r.getD t []).map ordT := by
  unfold lined
  simp only [List.getD_eq_getElem?_getD, List.getElem?_map]
  cases r[t]? <;> rfl
theorem lined_own (r : Rw') (t a : Nat) : own2 (lined r) t a = ordT (own2 r t a) := by
  unfold own2
  rw [lined_get]
  simp only [List.getD_eq_getElem?_getD, List.getElem?_map]
  cases (r[t]?.getD [])[a]? <;> rfl
theorem lined_cR (n : Nat) (r : Rw') (q : Nat × Nat) : cR n (lined r) q = cR n r q := by
  unfold cR
  congr 1
  apply List.map_congr_left
  intro t _
  rw [lined_get]
  unfold cB
  rw [List.map_map]
  congr 1
  apply List.map_congr_left
  intro o _
  exact (ordT_perm o).countP_eq _
theorem mem_own2 {n L : Nat} {r : Rw'} (h : Sq n L r) {b : Bt} (hb : b ∈ r) {o : List Th} (ho : o ∈ b) : ∃ t < n, ∃ a < L, own2 r t a = o := by
  obtain ⟨t, ht, rfl⟩ := List.getElem_of_mem hb
  obtain ⟨a, ha, rfl⟩ := List.getElem_of_mem ho
  have hw := h.wid t (by rw [← h.len]; exact ht)
  rw [getD_get r [] ht] at hw
  refine ⟨t, by rw [← h.len]; exact ht, a, by rw [← hw]; exact ha, ?_⟩
  unfold own2
  rw [getD_get r [] ht, getD_get _ [] ha]
/-- what makes beats in order a row -/
theorem row_of {n L : Nat} {r : Rw'} (h : Sq n L r) (n1 : 1 ≤ n) (n2 : n ≤ 24) (l1 : 1 ≤ L) (l2 : L ≤ 6) (hr : ∀ t < n, ∀ a < L, (own2 r t a).length ≤ 4) (hh : ∀ t < n, ∀ a < L, ∀ p ∈ own2 r t a, (1 ≤ p.1 ∧ p.1 ≤ 15) ∧ 0 ≤ p.2 ∧ p.2 < (L : Int)) : RowOk L (lined r) := by
  have sq : Sq n L (lined r) := ⟨by rw [lined_len]; exact h.len, fun t ht => by rw [lined_get, List.length_map]; exact h.wid t ht⟩
  refine ⟨by rw [lined_len, h.len]; exact n1, by rw [lined_len, h.len]; exact n2, l1, l2, fun b hb => ?_, fun b hb o ho => ?_, fun b hb o ho p hp => ?_, fun b hb o ho p hp => ?_, fun b hb o ho => ?_⟩
  · obtain ⟨t, ht, rfl⟩ := List.getElem_of_mem hb
    have := sq.wid t (by rw [← sq.len]; exact ht)
    rw [getD_get _ [] ht] at this
    exact this
  all_goals (obtain ⟨t, ht, a, ha, rfl⟩ := mem_own2 sq hb ho)
  · rw [lined_own, ordT_len]; exact hr t ht a ha
  · rw [lined_own] at hp; exact (hh t ht a ha p ((ordT_perm _).mem_iff.mp hp)).1
  · rw [lined_own] at hp; exact (hh t ht a ha p ((ordT_perm _).mem_iff.mp hp)).2
  · rw [lined_own]; exact ordT_ordT _
theorem sq_of {L : Nat} {r : Rw'} (h : RowOk L r) : Sq r.length L r := ⟨rfl, fun t ht => h.beat ht⟩
theorem fits_of {n L : Nat} {r : Rw'} (h : Sq n L r) (ok : RowOk L (lined r)) (hc : ∀ t < n, ∀ l < L, (own2 r t l).length = cR n r (t, l)) : clash L (lined r) = none := by
  rw [clash_none]
  intro t ht l hl
  have e : (lined r).length = n := by rw [lined_len, h.len]
  have := at_landT (L := L) (r := lined r) (by have := ok.n1; omega) ok.goal (t, l)
  rw [this, lined_own, ordT_len, e, lined_cR, hc t (by omega) l hl]
/-- spots so far -/
structure SpOk (L sp T A : Nat) (ps : List (Nat × Nat)) : Prop where
  mem : ∀ p ∈ ps, (p.1 < T ∨ (p.1 = T ∧ p.2 < A)) ∧ p.2 < L
  cnt : ∀ q, ps.count q ≤ sp
  len : ps.length ≤ (T * L + A) * sp
theorem SpOk.add {L sp T A d : Nat} {ps : List (Nat × Nat)} (h : SpOk L sp T A ps) (hA : A < L) (hd : d ≤ sp) : SpOk L sp T (A + 1) (ps ++ List.replicate d (T, A)) := by
  refine ⟨fun p hp => ?_, fun q => ?_, ?_⟩
  · rcases List.mem_append.mp hp with hp | hp
    · have := h.mem p hp
      omega
    · obtain ⟨_, rfl⟩ := List.mem_replicate.mp hp
      show (T < T ∨ (T = T ∧ A < A + 1)) ∧ A < L
      omega
  · rw [List.count_append, List.count_replicate]
    by_cases e : (T, A) = q
    · have h0 : ps.count q = 0 := by
        rw [List.count_eq_zero]
        intro hq
        have := h.mem q hq
        rw [← e] at this
        simp only at this
        omega
      rw [h0]
      split <;> omega
    · rw [if_neg (by simpa using e)]
      exact h.cnt q
  · have := h.len
    rw [List.length_append, List.length_replicate, ← Nat.add_assoc, Nat.add_mul (T * L + A) 1]
    omega
theorem SpOk.next {L sp T : Nat} {ps : List (Nat × Nat)} (h : SpOk L sp T L ps) : SpOk L sp (T + 1) 0 ps := by
  refine ⟨fun p hp => ?_, h.cnt, ?_⟩
  · have := h.mem p hp
    omega
  · have := h.len
    rw [show (T + 1) * L + 0 = T * L + L by rw [Nat.add_mul]; omega]
    exact this
/-- beats so far: those of the spots done are thrown, the goals gs are left -/
structure BsOk (n L : Nat) (ps dn gs : List (Nat × Nat)) (bs : Rw') : Prop where
  sq : Sq n L bs
  own : ∀ t < n, ∀ a < L, (own2 bs t a).length = dn.count (t, a)
  cnt : ∀ q, cR n bs q + gs.count q = ps.count q
  thr : ∀ t < n, ∀ a < L, ∀ p ∈ own2 bs t a, (1 ≤ p.1 ∧ p.1 ≤ 15) ∧ 0 ≤ p.2 ∧ p.2 < (L : Int)
  len : gs.length + dn.length = ps.length
  sub : ∀ q ∈ gs, q ∈ ps
theorem own_empty {n L : Nat} (t a : Nat) : own2 (List.replicate n (List.replicate L [])) t a = [] := by
  unfold own2
  simp only [List.getD_eq_getElem?_getD, List.getElem?_replicate]
  split
  · rw [Option.getD_some, List.getElem?_replicate]
    split <;> rfl
  · rfl
theorem cR_empty {n L : Nat} (q : Nat × Nat) : cR n (List.replicate n (List.replicate L [])) q = 0 := by
  unfold cR
  have : (List.range n).map (fun t => cB n t q ((List.replicate n (List.replicate L ([] : List Th))).getD t [])) = (List.range n).map fun _ => 0 := by
    apply List.map_congr_left
    intro t ht
    rw [List.getD_eq_getElem?_getD, List.getElem?_replicate, if_pos (List.mem_range.mp ht), Option.getD_some]
    unfold cB
    rw [List.map_replicate]
    show (List.replicate L 0).sum = 0
    simp
  rw [this, List.map_const']
  simp
theorem BsOk.start {n L : Nat} (ps : List (Nat × Nat)) : BsOk n L ps [] ps (List.replicate n (List.replicate L [])) := by
  refine ⟨⟨List.length_replicate .., fun t ht => ?_⟩, fun t _ a _ => ?_, fun q => ?_, fun t _ a _ p hp => ?_, by simp, fun q h => h⟩
  · rw [List.getD_eq_getElem?_getD, List.getElem?_replicate, if_pos ht]
    exact List.length_replicate ..
  · rw [own_empty]; rfl
  · rw [cR_empty, Nat.zero_add]
  · rw [own_empty] at hp; cases hp
theorem BsOk.step {n L : Nat} {ps dn gs : List (Nat × Nat)} {bs : Rw'} (h : BsOk n L ps dn gs bs) (hb : ∀ q ∈ ps, q.1 < n ∧ q.2 < L) {t a j : Nat} (ht : t < n) (ha : a < L) (hj : j < gs.length) {x : Int} (hx : 1 ≤ x ∧ x ≤ 15) (he : toT n t (x, (gs[j].2 : Int)) = gs[j].1) (hl : dn.length < ps.length) :
    BsOk n L ps (dn ++ [(t, a)]) (gs.eraseIdx j) (put2 bs t a (own2 bs t a ++ [(x, (gs[j].2 : Int))])) := by
  have gm := h.sub _ (List.getElem_mem hj)
  have gb := hb _ gm
  have pm := erase_perm gs j hj
  refine ⟨h.sq.put _ _ _, fun t' ht' a' ha' => ?_, fun q => ?_, fun t' ht' a' ha' p hp => ?_, ?_, fun q hq => h.sub q (List.mem_of_mem_eraseIdx hq)⟩
  · rw [own_put h.sq ht ha, List.count_append]
    have h1 := h.own t' ht' a' ha'
    by_cases e : t = t' ∧ a = a'
    · rw [if_pos e, List.length_append, e.1, e.2, h1]
      simp
    · rw [if_neg e, h1]
      have : List.count (t', a') [(t, a)] = 0 := by
        rw [List.count_eq_zero]
        intro hm
        rw [List.mem_singleton, Prod.mk.injEq] at hm
        exact e ⟨hm.1.symm, hm.2.symm⟩
      rw [this]; rfl
  · have h1 := cO_put h.sq ht ha (own2 bs t a ++ [(x, (gs[j].2 : Int))]) q
    have h2 := h.cnt q
    have h3 := pm.count_eq q
    rw [List.count_cons] at h3
    have h4 : cO n t q (own2 bs t a ++ [(x, (gs[j].2 : Int))]) = cO n t q (own2 bs t a) + if gs[j] = q then 1 else 0 := by
      unfold cO
      rw [List.countP_append]
      congr 1
      unfold hit
      by_cases e : gs[j] = q
      · rw [if_pos e, ← e]
        simp [he]
      · rw [if_neg e]
        have : ¬ (toT n t (x, (gs[j].2 : Int)) = q.1 ∧ ((gs[j].2 : Int)).toNat = q.2) := fun z => e (Prod.ext (he.symm.trans z.1) (by simpa using z.2))
        simp only [List.countP_cons, List.countP_nil, this, decide_false, Bool.false_eq_true, if_false]
    rw [h4] at h1
    by_cases e : gs[j] = q
    · rw [if_pos e] at h1; rw [if_pos (by simpa using e)] at h3; omega
    · rw [if_neg e] at h1; rw [if_neg (by simpa using e)] at h3; omega
  · rw [own_put h.sq ht ha] at hp
    split at hp
    · rename_i e
      rw [← e.1, ← e.2] at *
      rcases List.mem_append.mp hp with hp | hp
      · exact h.thr t ht a ha p hp
      · rw [List.mem_singleton] at hp
        subst hp
        exact ⟨hx, by simp only; omega⟩
    · exact h.thr t' ht' a' ha' p hp
  · have h1 := h.len
    rw [List.length_eraseIdx, if_pos hj, List.length_append]
    simp only [List.length_cons, List.length_nil]
    omega
end Hx
namespace Hx
open PySem (Str)
theorem pD_tg {i j : Nat} {p : Nat × Nat} {env : List Sl} : stTg (.cons (.v i) (.cons (.v j) .nil)) (pD p) env = some ((env.set i (.fz (.int p.1))).set j (.fz (.int p.2))) := Eq.trans rfl rfl
theorem toT_mod {n t : Nat} {x y : Int} {g : Int} {c : Int} (h : y = x + c * n) : toT n t (y, g) = toT n t (x, g) := by
  unfold toT
  subst h
  simp only
  rw [show (t : Int) + (x + c * n) = (t : Int) + x + c * n by omega, Int.add_mul_emod_self_right]
theorem tall_le {n x : Int} (hn : 1 ≤ n) (hx : x ≤ 15) : x ≤ x + (15 - x) / n * n ∧ x + (15 - x) / n * n ≤ 15 ∧ 0 ≤ (15 - x) / n ∧ (15 - x) / n ≤ 15 - x := by
  have h1 : (15 - x) / n * n ≤ 15 - x := Int.ediv_mul_le _ (by omega)
  have h2 : 0 ≤ (15 - x) / n := Int.ediv_nonneg (by omega) (by omega)
  have h3 : 0 ≤ (15 - x) / n * n := Int.mul_nonneg h2 (by omega)
  have h4 : (15 - x) / n ≤ 15 - x := Int.ediv_le_self _ (by omega)
  omega
theorem erase_map {A B : Type} (f : A → B) : ∀ (l : List A) (j : Nat), (l.map f).eraseIdx j = (l.eraseIdx j).map f
  | [], _ => rfl
  | _ :: _, 0 => rfl
  | x :: l, j + 1 => by
    show f x :: (l.map f).eraseIdx j = _
    rw [erase_map f l j]; rfl
theorem SpOk.start {L sp : Nat} : SpOk L sp 0 0 [] := ⟨fun _ h => (nomatch h), fun _ => Nat.zero_le _, Nat.zero_le _⟩
theorem s_w_row {k L n sp : Nat} {w : Wd} (g : GW w) (l1 : 1 ≤ L) (l2 : L ≤ 6) (n1 : 1 ≤ n) (n2 : n ≤ 15) (hsp : sp ≤ 4) :
    ∃ v w', semT tbl (k + 2) 20 [.town, .int L, .int n, .int sp] w = .ok v [] w' ∧ (∃ r, v = rowD r ∧ RowOk L r ∧ clash L r = none ∧ r.length = n ∧ ∀ b ∈ r, ∀ o ∈ b, o.length ≤ sp) ∧ GW w' := by
  refine sem_of (P := fun v w' => (∃ r, v = rowD r ∧ RowOk L r ∧ clash L r = none ∧ r.length = n ∧ ∀ b ∈ r, ∀ o ∈ b, o.length ≤ sp) ∧ GW w') (fn := f_w_row) rfl rfl ?_
  have hrd1 : (1 ≤ dep (rdOf tbl) (.prm .list (.cons (.var 4) .nil)) ∧ 0 < 1) := by simp [dep]
  have hrd2 : (3 ≤ dep (rdOf tbl) (.comp [5] (.gfor (.v 5) (.irng (.cons (.var 2) .nil)) (.cst (.bl true)) (.gelt (.comp [6] (.gfor (.v 6) (.irng (.cons (.var 1) .nil)) (.cst (.bl true)) (.gelt (.lst .nil))))))) ∧ 0 < 3) := by simp [dep]
  have rn := rng1 (n := (n : Int)) (by omega) (by omega)
  have rL := rng1 (n := (L : Int)) (by omega) (by omega)
  rw [Int.toNat_natCast] at rn rL
  simp only [ex_skip, ex_seq, ex_asg, ex_asgo, ex_par, ex_aug, ex_xpr, ex_ite, ex_ret, ex_retn, ex_rai, ex_fr, ex_whl, ev_var, ev_cst, ev_glb, ev_tup, ev_lst, ev_bin, ev_neg, ev_not, ev_and, ev_or, ev_ife, ev_cmp, ev_chn, ev_call, ev_prm, ev_idx, ev_slc, ev_rev, ev_isi, ev_mkt, ev_draw, ev_comp, evA_nil, evA_cons, evP_nil, evP_cons, evO_nil, evO_cons, evI_rng, evI_enu, evI_zip, evI_it, evG_elt, evG_for, bind_bind, bind_ok, bind_exc, bind_stuck, bind_ite, opt_some, ofRW_ok, ofRW_exc, wp_ok, cmp_le, cmp_ge, cmp_lt, cmp_gt, cmp_eq, cmp_ne, cmp_eqb, cmp_isb, cmp_nisb, cmp_isn, cmp_nis, is_int_int, is_int_bl, is_int_str, is_int_tup, is_int_lst, is_int_non, is_bool_int, is_bool_bl, is_bool_str, is_bool_tup, is_bool_lst, is_bool_non, is_tuple_int, is_tuple_bl, is_tuple_str, is_tuple_tup, is_tuple_lst, is_tuple_non, is_list_int, is_list_bl, is_list_str, is_list_tup, is_list_lst, is_list_non, is_str_int, is_str_bl, is_str_str, is_str_tup, is_str_lst, is_str_non, nn_int, nn_bl, nn_str, nn_tup, nn_lst, nn_non, itY_tup, it_lst, sq_tup, sq_lst, len_own, len_beat, len_row, iter_own, iter_beat, iter_row, seq_own, seq_beat, seq_row, isi_own, isi_beat, isi_row, list_own, list_row, sorted_own, isN_row, add_int, sub_int, len_tup, len_lst, tuple_lst, tuple_tup, list_lst, list_tup, stTg, List.getElem?_cons_zero, List.getElem?_cons_succ, List.set_cons_zero, List.set_cons_succ, Option.map_some, Option.bind_some, Prim.look, List.headD_cons, List.tail_cons, slots0, List.zipIdx_cons, List.zipIdx_nil, List.map_cons, List.map_nil, List.lookup_nil, List.replicate_succ, List.replicate_zero, List.append_nil, List.nil_append, List.cons_append, unsl, backsl, List.foldl_cons, List.foldl_nil, flowD, if_true, if_false, Bool.not_true, Bool.not_false, Bool.false_eq_true, Nat.le_refl, Nat.reduceLeDiff, Nat.reduceLT, and_self, true_and, and_true, f_w_row, rn, hrd1, hrd2]
  refine wp_forB (List.range n) (fun (j : Nat) => D.int (j : Int)) (fun ts s => ∃ ps a b w1, s = ⟨[.fz .town, .fz (.int L), .fz (.int n), .fz (.int sp), .fz (.lst (ps.map pD)), a, b, .un, .un, .un, .un, .un], w1⟩ ∧ GW w1 ∧ SpOk L sp ts.length 0 ps) ⟨[], _, _, _, rfl, g, SpOk.start⟩ (fun pre t post s e q => ?_) fun s q => ?_
  · obtain ⟨ps, a, b, w1, rfl, g1, ok⟩ := q
    obtain ⟨epre, ht⟩ := range_split e
    rw [epre, List.length_range] at ok
    simp only [ex_skip, ex_seq, ex_asg, ex_asgo, ex_par, ex_aug, ex_xpr, ex_ite, ex_ret, ex_retn, ex_rai, ex_fr, ex_whl, ev_var, ev_cst, ev_glb, ev_tup, ev_lst, ev_bin, ev_neg, ev_not, ev_and, ev_or, ev_ife, ev_cmp, ev_chn, ev_call, ev_prm, ev_idx, ev_slc, ev_rev, ev_isi, ev_mkt, ev_draw, ev_comp, evA_nil, evA_cons, evP_nil, evP_cons, evO_nil, evO_cons, evI_rng, evI_enu, evI_zip, evI_it, evG_elt, evG_for, bind_bind, bind_ok, bind_exc, bind_stuck, bind_ite, opt_some, ofRW_ok, ofRW_exc, wp_ok, cmp_le, cmp_ge, cmp_lt, cmp_gt, cmp_eq, cmp_ne, cmp_eqb, cmp_isb, cmp_nisb, cmp_isn, cmp_nis, is_int_int, is_int_bl, is_int_str, is_int_tup, is_int_lst, is_int_non, is_bool_int, is_bool_bl, is_bool_str, is_bool_tup, is_bool_lst, is_bool_non, is_tuple_int, is_tuple_bl, is_tuple_str, is_tuple_tup, is_tuple_lst, is_tuple_non, is_list_int, is_list_bl, is_list_str, is_list_tup, is_list_lst, is_list_non, is_str_int, is_str_bl, is_str_str, is_str_tup, is_str_lst, is_str_non, nn_int, nn_bl, nn_str, nn_tup, nn_lst, nn_non, itY_tup, it_lst, sq_tup, sq_lst, len_own, len_beat, len_row, iter_own, iter_beat, iter_row, seq_own, seq_beat, seq_row, isi_own, isi_beat, isi_row, list_own, list_row, sorted_own, isN_row, add_int, sub_int, len_tup, len_lst, tuple_lst, tuple_tup, list_lst, list_tup, stTg, List.getElem?_cons_zero, List.getElem?_cons_succ, List.set_cons_zero, List.set_cons_succ, Option.map_some, Option.bind_some, Prim.look, List.headD_cons, List.tail_cons, slots0, List.zipIdx_cons, List.zipIdx_nil, List.map_cons, List.map_nil, List.lookup_nil, List.replicate_succ, List.replicate_zero, List.append_nil, List.nil_append, List.cons_append, unsl, backsl, List.foldl_cons, List.foldl_nil, flowD, if_true, if_false, Bool.not_true, Bool.not_false, Bool.false_eq_true, Nat.le_refl, Nat.reduceLeDiff, Nat.reduceLT, and_self, true_and, and_true, loopF, rL]
    refine wp_forM (List.range L) (fun (j : Nat) => D.int (j : Int)) (fun as s => ∃ ps b w1, s = ⟨[.fz .town, .fz (.int L), .fz (.int n), .fz (.int sp), .fz (.lst (ps.map pD)), .fz (.int t), b, .un, .un, .un, .un, .un], w1⟩ ∧ GW w1 ∧ SpOk L sp t as.length ps) ⟨ps, b, w1, rfl, g1, ok⟩ (fun pre2 a post2 s e2 q => ?_) fun s q => ?_
    · obtain ⟨ps, b, w1, rfl, g1, ok⟩ := q
      obtain ⟨epre2, ha⟩ := range_split e2
      rw [epre2, List.length_range] at ok
      obtain ⟨d, w2, ed, d0, d1, g2⟩ := draw_ok (n := (sp : Int) + 1) g1 (by omega) (by omega)
      have hps : ps.length ≤ 1000 := by
        have h1 := ok.len
        have h2 : t * L ≤ 15 * 6 := Nat.mul_le_mul (by omega) l2
        have h3 : (t * L + a) * sp ≤ (15 * 6 + 6) * 4 := Nat.mul_le_mul (by omega) hsp
        omega
      simp only [ex_skip, ex_seq, ex_asg, ex_asgo, ex_par, ex_aug, ex_xpr, ex_ite, ex_ret, ex_retn, ex_rai, ex_fr, ex_whl, ev_var, ev_cst, ev_glb, ev_tup, ev_lst, ev_bin, ev_neg, ev_not, ev_and, ev_or, ev_ife, ev_cmp, ev_chn, ev_call, ev_prm, ev_idx, ev_slc, ev_rev, ev_isi, ev_mkt, ev_draw, ev_comp, evA_nil, evA_cons, evP_nil, evP_cons, evO_nil, evO_cons, evI_rng, evI_enu, evI_zip, evI_it, evG_elt, evG_for, bind_bind, bind_ok, bind_exc, bind_stuck, bind_ite, opt_some, ofRW_ok, ofRW_exc, wp_ok, cmp_le, cmp_ge, cmp_lt, cmp_gt, cmp_eq, cmp_ne, cmp_eqb, cmp_isb, cmp_nisb, cmp_isn, cmp_nis, is_int_int, is_int_bl, is_int_str, is_int_tup, is_int_lst, is_int_non, is_bool_int, is_bool_bl, is_bool_str, is_bool_tup, is_bool_lst, is_bool_non, is_tuple_int, is_tuple_bl, is_tuple_str, is_tuple_tup, is_tuple_lst, is_tuple_non, is_list_int, is_list_bl, is_list_str, is_list_tup, is_list_lst, is_list_non, is_str_int, is_str_bl, is_str_str, is_str_tup, is_str_lst, is_str_non, nn_int, nn_bl, nn_str, nn_tup, nn_lst, nn_non, itY_tup, it_lst, sq_tup, sq_lst, len_own, len_beat, len_row, iter_own, iter_beat, iter_row, seq_own, seq_beat, seq_row, isi_own, isi_beat, isi_row, list_own, list_row, sorted_own, isN_row, add_int, sub_int, len_tup, len_lst, tuple_lst, tuple_tup, list_lst, list_tup, stTg, List.getElem?_cons_zero, List.getElem?_cons_succ, List.set_cons_zero, List.set_cons_succ, Option.map_some, Option.bind_some, Prim.look, List.headD_cons, List.tail_cons, slots0, List.zipIdx_cons, List.zipIdx_nil, List.map_cons, List.map_nil, List.lookup_nil, List.replicate_succ, List.replicate_zero, List.append_nil, List.nil_append, List.cons_append, unsl, backsl, List.foldl_cons, List.foldl_nil, flowD, if_true, if_false, Bool.not_true, Bool.not_false, Bool.false_eq_true, Nat.le_refl, Nat.reduceLeDiff, Nat.reduceLT, and_self, true_and, and_true, loopF, ed, rep_lst (xs := [D.tup [.int t, .int a]]) (j := d) (by omega) (by omega) (by simp [line]; omega), repL_one]
      rw [cat_lst (by rw [List.length_map, List.length_replicate]; unfold line; omega)]
      simp only [ex_skip, ex_seq, ex_asg, ex_asgo, ex_par, ex_aug, ex_xpr, ex_ite, ex_ret, ex_retn, ex_rai, ex_fr, ex_whl, ev_var, ev_cst, ev_glb, ev_tup, ev_lst, ev_bin, ev_neg, ev_not, ev_and, ev_or, ev_ife, ev_cmp, ev_chn, ev_call, ev_prm, ev_idx, ev_slc, ev_rev, ev_isi, ev_mkt, ev_draw, ev_comp, evA_nil, evA_cons, evP_nil, evP_cons, evO_nil, evO_cons, evI_rng, evI_enu, evI_zip, evI_it, evG_elt, evG_for, bind_bind, bind_ok, bind_exc, bind_stuck, bind_ite, opt_some, ofRW_ok, ofRW_exc, wp_ok, cmp_le, cmp_ge, cmp_lt, cmp_gt, cmp_eq, cmp_ne, cmp_eqb, cmp_isb, cmp_nisb, cmp_isn, cmp_nis, is_int_int, is_int_bl, is_int_str, is_int_tup, is_int_lst, is_int_non, is_bool_int, is_bool_bl, is_bool_str, is_bool_tup, is_bool_lst, is_bool_non, is_tuple_int, is_tuple_bl, is_tuple_str, is_tuple_tup, is_tuple_lst, is_tuple_non, is_list_int, is_list_bl, is_list_str, is_list_tup, is_list_lst, is_list_non, is_str_int, is_str_bl, is_str_str, is_str_tup, is_str_lst, is_str_non, nn_int, nn_bl, nn_str, nn_tup, nn_lst, nn_non, itY_tup, it_lst, sq_tup, sq_lst, len_own, len_beat, len_row, iter_own, iter_beat, iter_row, seq_own, seq_beat, seq_row, isi_own, isi_beat, isi_row, list_own, list_row, sorted_own, isN_row, add_int, sub_int, len_tup, len_lst, tuple_lst, tuple_tup, list_lst, list_tup, stTg, List.getElem?_cons_zero, List.getElem?_cons_succ, List.set_cons_zero, List.set_cons_succ, Option.map_some, Option.bind_some, Prim.look, List.headD_cons, List.tail_cons, slots0, List.zipIdx_cons, List.zipIdx_nil, List.map_cons, List.map_nil, List.lookup_nil, List.replicate_succ, List.replicate_zero, List.append_nil, List.nil_append, List.cons_append, unsl, backsl, List.foldl_cons, List.foldl_nil, flowD, if_true, if_false, Bool.not_true, Bool.not_false, Bool.false_eq_true, Nat.le_refl, Nat.reduceLeDiff, Nat.reduceLT, and_self, true_and, and_true]
      refine ⟨ps ++ List.replicate d.toNat (t, a), .fz (.int a), w2, ?_, g2, ?_⟩
      · rw [List.map_append, List.map_replicate]; rfl
      · rw [List.length_append, List.length_cons, List.length_nil, epre2, List.length_range]
        exact ok.add ha (by omega)
    · obtain ⟨ps, b, w1, rfl, g1, ok⟩ := q
      rw [List.length_range] at ok
      refine ⟨ps, .fz (.int t), b, w1, rfl, g1, ?_⟩
      rw [List.length_append, List.length_cons, List.length_nil, epre, List.length_range]
      exact ok.next
  · obtain ⟨ps, a5, a6, w1, rfl, g1, ok⟩ := q
    rw [List.length_range] at ok
    simp only [ex_skip, ex_seq, ex_asg, ex_asgo, ex_par, ex_aug, ex_xpr, ex_ite, ex_ret, ex_retn, ex_rai, ex_fr, ex_whl, ev_var, ev_cst, ev_glb, ev_tup, ev_lst, ev_bin, ev_neg, ev_not, ev_and, ev_or, ev_ife, ev_cmp, ev_chn, ev_call, ev_prm, ev_idx, ev_slc, ev_rev, ev_isi, ev_mkt, ev_draw, ev_comp, evA_nil, evA_cons, evP_nil, evP_cons, evO_nil, evO_cons, evI_rng, evI_enu, evI_zip, evI_it, evG_elt, evG_for, bind_bind, bind_ok, bind_exc, bind_stuck, bind_ite, opt_some, ofRW_ok, ofRW_exc, wp_ok, cmp_le, cmp_ge, cmp_lt, cmp_gt, cmp_eq, cmp_ne, cmp_eqb, cmp_isb, cmp_nisb, cmp_isn, cmp_nis, is_int_int, is_int_bl, is_int_str, is_int_tup, is_int_lst, is_int_non, is_bool_int, is_bool_bl, is_bool_str, is_bool_tup, is_bool_lst, is_bool_non, is_tuple_int, is_tuple_bl, is_tuple_str, is_tuple_tup, is_tuple_lst, is_tuple_non, is_list_int, is_list_bl, is_list_str, is_list_tup, is_list_lst, is_list_non, is_str_int, is_str_bl, is_str_str, is_str_tup, is_str_lst, is_str_non, nn_int, nn_bl, nn_str, nn_tup, nn_lst, nn_non, itY_tup, it_lst, sq_tup, sq_lst, len_own, len_beat, len_row, iter_own, iter_beat, iter_row, seq_own, seq_beat, seq_row, isi_own, isi_beat, isi_row, list_own, list_row, sorted_own, isN_row, add_int, sub_int, len_tup, len_lst, tuple_lst, tuple_tup, list_lst, list_tup, stTg, List.getElem?_cons_zero, List.getElem?_cons_succ, List.set_cons_zero, List.set_cons_succ, Option.map_some, Option.bind_some, Prim.look, List.headD_cons, List.tail_cons, slots0, List.zipIdx_cons, List.zipIdx_nil, List.map_cons, List.map_nil, List.lookup_nil, List.replicate_succ, List.replicate_zero, List.append_nil, List.nil_append, List.cons_append, unsl, backsl, List.foldl_cons, List.foldl_nil, flowD, if_true, if_false, Bool.not_true, Bool.not_false, Bool.false_eq_true, Nat.le_refl, Nat.reduceLeDiff, Nat.reduceLT, and_self, true_and, and_true, rn]
    have hps : ps.length ≤ 1000 := by
      have h1 := ok.len
      have h2 : n * L ≤ 15 * 6 := Nat.mul_le_mul n2 l2
      have h3 : (n * L + 0) * sp ≤ (15 * 6) * 4 := Nat.mul_le_mul (by omega) hsp
      omega
    have hb : ∀ q ∈ ps, q.1 < n ∧ q.2 < L := fun q hq => by
      have := ok.mem q hq
      omega
    refine wp_comp1 (List.range n) (fun (j : Nat) => D.int (j : Int)) (fun _ => bldB (List.replicate L [])) (fun s => ∃ x, s = ⟨[.fz .town, .fz (.int L), .fz (.int n), .fz (.int sp), .fz (.lst (ps.map pD)), x, a6, .ow 1 (.lst (ps.map pD)), .un, .un, .un, .un], w1⟩) ⟨_, rfl⟩ (by simp [line]; omega) (fun t ht acc s q hz => ?_) fun s q => ?_
    · obtain ⟨x, rfl⟩ := q
      simp only [ex_skip, ex_seq, ex_asg, ex_asgo, ex_par, ex_aug, ex_xpr, ex_ite, ex_ret, ex_retn, ex_rai, ex_fr, ex_whl, ev_var, ev_cst, ev_glb, ev_tup, ev_lst, ev_bin, ev_neg, ev_not, ev_and, ev_or, ev_ife, ev_cmp, ev_chn, ev_call, ev_prm, ev_idx, ev_slc, ev_rev, ev_isi, ev_mkt, ev_draw, ev_comp, evA_nil, evA_cons, evP_nil, evP_cons, evO_nil, evO_cons, evI_rng, evI_enu, evI_zip, evI_it, evG_elt, evG_for, bind_bind, bind_ok, bind_exc, bind_stuck, bind_ite, opt_some, ofRW_ok, ofRW_exc, wp_ok, cmp_le, cmp_ge, cmp_lt, cmp_gt, cmp_eq, cmp_ne, cmp_eqb, cmp_isb, cmp_nisb, cmp_isn, cmp_nis, is_int_int, is_int_bl, is_int_str, is_int_tup, is_int_lst, is_int_non, is_bool_int, is_bool_bl, is_bool_str, is_bool_tup, is_bool_lst, is_bool_non, is_tuple_int, is_tuple_bl, is_tuple_str, is_tuple_tup, is_tuple_lst, is_tuple_non, is_list_int, is_list_bl, is_list_str, is_list_tup, is_list_lst, is_list_non, is_str_int, is_str_bl, is_str_str, is_str_tup, is_str_lst, is_str_non, nn_int, nn_bl, nn_str, nn_tup, nn_lst, nn_non, itY_tup, it_lst, sq_tup, sq_lst, len_own, len_beat, len_row, iter_own, iter_beat, iter_row, seq_own, seq_beat, seq_row, isi_own, isi_beat, isi_row, list_own, list_row, sorted_own, isN_row, add_int, sub_int, len_tup, len_lst, tuple_lst, tuple_tup, list_lst, list_tup, stTg, List.getElem?_cons_zero, List.getElem?_cons_succ, List.set_cons_zero, List.set_cons_succ, Option.map_some, Option.bind_some, Prim.look, List.headD_cons, List.tail_cons, slots0, List.zipIdx_cons, List.zipIdx_nil, List.map_cons, List.map_nil, List.lookup_nil, List.replicate_succ, List.replicate_zero, List.append_nil, List.nil_append, List.cons_append, unsl, backsl, List.foldl_cons, List.foldl_nil, flowD, if_true, if_false, Bool.not_true, Bool.not_false, Bool.false_eq_true, Nat.le_refl, Nat.reduceLeDiff, Nat.reduceLT, and_self, true_and, and_true, compF, rL]
      refine wp_comp1 (List.range L) (fun (j : Nat) => D.int (j : Int)) (fun _ => bldO []) (fun s => ∃ y, s = ⟨[.fz .town, .fz (.int L), .fz (.int n), .fz (.int sp), .fz (.lst (ps.map pD)), .fz (.int t), y, .ow 1 (.lst (ps.map pD)), .un, .un, .un, .un], w1⟩) ⟨_, rfl⟩ (by simp [line]; omega) (fun a ha acc s q hz => ?_) fun s q => ?_
      · obtain ⟨y, rfl⟩ := q
        simp only [ex_skip, ex_seq, ex_asg, ex_asgo, ex_par, ex_aug, ex_xpr, ex_ite, ex_ret, ex_retn, ex_rai, ex_fr, ex_whl, ev_var, ev_cst, ev_glb, ev_tup, ev_lst, ev_bin, ev_neg, ev_not, ev_and, ev_or, ev_ife, ev_cmp, ev_chn, ev_call, ev_prm, ev_idx, ev_slc, ev_rev, ev_isi, ev_mkt, ev_draw, ev_comp, evA_nil, evA_cons, evP_nil, evP_cons, evO_nil, evO_cons, evI_rng, evI_enu, evI_zip, evI_it, evG_elt, evG_for, bind_bind, bind_ok, bind_exc, bind_stuck, bind_ite, opt_some, ofRW_ok, ofRW_exc, wp_ok, cmp_le, cmp_ge, cmp_lt, cmp_gt, cmp_eq, cmp_ne, cmp_eqb, cmp_isb, cmp_nisb, cmp_isn, cmp_nis, is_int_int, is_int_bl, is_int_str, is_int_tup, is_int_lst, is_int_non, is_bool_int, is_bool_bl, is_bool_str, is_bool_tup, is_bool_lst, is_bool_non, is_tuple_int, is_tuple_bl, is_tuple_str, is_tuple_tup, is_tuple_lst, is_tuple_non, is_list_int, is_list_bl, is_list_str, is_list_tup, is_list_lst, is_list_non, is_str_int, is_str_bl, is_str_str, is_str_tup, is_str_lst, is_str_non, nn_int, nn_bl, nn_str, nn_tup, nn_lst, nn_non, itY_tup, it_lst, sq_tup, sq_lst, len_own, len_beat, len_row, iter_own, iter_beat, iter_row, seq_own, seq_beat, seq_row, isi_own, isi_beat, isi_row, list_own, list_row, sorted_own, isN_row, add_int, sub_int, len_tup, len_lst, tuple_lst, tuple_tup, list_lst, list_tup, stTg, List.getElem?_cons_zero, List.getElem?_cons_succ, List.set_cons_zero, List.set_cons_succ, Option.map_some, Option.bind_some, Prim.look, List.headD_cons, List.tail_cons, slots0, List.zipIdx_cons, List.zipIdx_nil, List.map_cons, List.map_nil, List.lookup_nil, List.replicate_succ, List.replicate_zero, List.append_nil, List.nil_append, List.cons_append, unsl, backsl, List.foldl_cons, List.foldl_nil, flowD, if_true, if_false, Bool.not_true, Bool.not_false, Bool.false_eq_true, Nat.le_refl, Nat.reduceLeDiff, Nat.reduceLT, and_self, true_and, and_true, compF, hz]
        exact ⟨rfl, _, rfl⟩
      · obtain ⟨y, rfl⟩ := q
        simp only [ex_skip, ex_seq, ex_asg, ex_asgo, ex_par, ex_aug, ex_xpr, ex_ite, ex_ret, ex_retn, ex_rai, ex_fr, ex_whl, ev_var, ev_cst, ev_glb, ev_tup, ev_lst, ev_bin, ev_neg, ev_not, ev_and, ev_or, ev_ife, ev_cmp, ev_chn, ev_call, ev_prm, ev_idx, ev_slc, ev_rev, ev_isi, ev_mkt, ev_draw, ev_comp, evA_nil, evA_cons, evP_nil, evP_cons, evO_nil, evO_cons, evI_rng, evI_enu, evI_zip, evI_it, evG_elt, evG_for, bind_bind, bind_ok, bind_exc, bind_stuck, bind_ite, opt_some, ofRW_ok, ofRW_exc, wp_ok, cmp_le, cmp_ge, cmp_lt, cmp_gt, cmp_eq, cmp_ne, cmp_eqb, cmp_isb, cmp_nisb, cmp_isn, cmp_nis, is_int_int, is_int_bl, is_int_str, is_int_tup, is_int_lst, is_int_non, is_bool_int, is_bool_bl, is_bool_str, is_bool_tup, is_bool_lst, is_bool_non, is_tuple_int, is_tuple_bl, is_tuple_str, is_tuple_tup, is_tuple_lst, is_tuple_non, is_list_int, is_list_bl, is_list_str, is_list_tup, is_list_lst, is_list_non, is_str_int, is_str_bl, is_str_str, is_str_tup, is_str_lst, is_str_non, nn_int, nn_bl, nn_str, nn_tup, nn_lst, nn_non, itY_tup, it_lst, sq_tup, sq_lst, len_own, len_beat, len_row, iter_own, iter_beat, iter_row, seq_own, seq_beat, seq_row, isi_own, isi_beat, isi_row, list_own, list_row, sorted_own, isN_row, add_int, sub_int, len_tup, len_lst, tuple_lst, tuple_tup, list_lst, list_tup, stTg, List.getElem?_cons_zero, List.getElem?_cons_succ, List.set_cons_zero, List.set_cons_succ, Option.map_some, Option.bind_some, Prim.look, List.headD_cons, List.tail_cons, slots0, List.zipIdx_cons, List.zipIdx_nil, List.map_cons, List.map_nil, List.lookup_nil, List.replicate_succ, List.replicate_zero, List.append_nil, List.nil_append, List.cons_append, unsl, backsl, List.foldl_cons, List.foldl_nil, flowD, if_true, if_false, Bool.not_true, Bool.not_false, Bool.false_eq_true, Nat.le_refl, Nat.reduceLeDiff, Nat.reduceLT, and_self, true_and, and_true, hz]
        refine ⟨?_, _, rfl⟩
        unfold bldB
        rw [List.map_const', List.map_replicate, List.length_range]
    · obtain ⟨x, rfl⟩ := q
      simp only [ex_skip, ex_seq, ex_asg, ex_asgo, ex_par, ex_aug, ex_xpr, ex_ite, ex_ret, ex_retn, ex_rai, ex_fr, ex_whl, ev_var, ev_cst, ev_glb, ev_tup, ev_lst, ev_bin, ev_neg, ev_not, ev_and, ev_or, ev_ife, ev_cmp, ev_chn, ev_call, ev_prm, ev_idx, ev_slc, ev_rev, ev_isi, ev_mkt, ev_draw, ev_comp, evA_nil, evA_cons, evP_nil, evP_cons, evO_nil, evO_cons, evI_rng, evI_enu, evI_zip, evI_it, evG_elt, evG_for, bind_bind, bind_ok, bind_exc, bind_stuck, bind_ite, opt_some, ofRW_ok, ofRW_exc, wp_ok, cmp_le, cmp_ge, cmp_lt, cmp_gt, cmp_eq, cmp_ne, cmp_eqb, cmp_isb, cmp_nisb, cmp_isn, cmp_nis, is_int_int, is_int_bl, is_int_str, is_int_tup, is_int_lst, is_int_non, is_bool_int, is_bool_bl, is_bool_str, is_bool_tup, is_bool_lst, is_bool_non, is_tuple_int, is_tuple_bl, is_tuple_str, is_tuple_tup, is_tuple_lst, is_tuple_non, is_list_int, is_list_bl, is_list_str, is_list_tup, is_list_lst, is_list_non, is_str_int, is_str_bl, is_str_str, is_str_tup, is_str_lst, is_str_non, nn_int, nn_bl, nn_str, nn_tup, nn_lst, nn_non, itY_tup, it_lst, sq_tup, sq_lst, len_own, len_beat, len_row, iter_own, iter_beat, iter_row, seq_own, seq_beat, seq_row, isi_own, isi_beat, isi_row, list_own, list_row, sorted_own, isN_row, add_int, sub_int, len_tup, len_lst, tuple_lst, tuple_tup, list_lst, list_tup, stTg, List.getElem?_cons_zero, List.getElem?_cons_succ, List.set_cons_zero, List.set_cons_succ, Option.map_some, Option.bind_some, Prim.look, List.headD_cons, List.tail_cons, slots0, List.zipIdx_cons, List.zipIdx_nil, List.map_cons, List.map_nil, List.lookup_nil, List.replicate_succ, List.replicate_zero, List.append_nil, List.nil_append, List.cons_append, unsl, backsl, List.foldl_cons, List.foldl_nil, flowD, if_true, if_false, Bool.not_true, Bool.not_false, Bool.false_eq_true, Nat.le_refl, Nat.reduceLeDiff, Nat.reduceLT, and_self, true_and, and_true]
      rw [show D.lst ((List.range n).map fun _ => bldB (List.replicate L [])) = bldD (List.replicate n (List.replicate L [])) by
        unfold bldD
        rw [List.map_const', List.map_replicate, List.length_range]]
      refine wp_forB ps pD (fun dn s => ∃ bs gs a5 a6 a9 a10 a11 w1, s = ⟨[.fz .town, .fz (.int L), .fz (.int n), .fz (.int sp), .fz (.lst (ps.map pD)), a5, a6, .ow 1 (.lst (gs.map pD)), .ow 3 (bldD bs), a9, a10, a11], w1⟩ ∧ GW w1 ∧ BsOk n L ps dn gs bs) ⟨_, ps, _, _, _, _, _, _, rfl, g1, BsOk.start ps⟩ (fun dn p post s e q => ?_) fun s q => ?_
      · obtain ⟨bs, gs, a5, a6, a9, a10, a11, w1, rfl, g1, bk⟩ := q
        have hp := hb p (by rw [e]; simp)
        obtain ⟨t, a⟩ := p
        have ht : t < n := hp.1
        have ha : a < L := hp.2
        have hdn : dn.length < ps.length := by rw [e]; simp
        have hgs : 0 < gs.length := by have := bk.len; omega
        obtain ⟨d, w2, ed, d0, d1, g2⟩ := draw_ok (n := (gs.length : Int)) g1 (by omega) (by have := bk.len; omega)
        have hj : d.toNat < gs.length := by omega
        unfold loopF
        rw [pD_tg, opt_some, bind_ok]
        have hto := hb _ (bk.sub _ (List.getElem_mem hj))
        have hstep := @BsOk.step n L ps dn gs bs bk hb t a d.toNat ht ha hj
        generalize hq : gs[d.toNat] = q at hto hstep
        obtain ⟨to, goal⟩ := q
        simp only [List.set_cons_zero, List.set_cons_succ]
        refine wp_seq (fun s => s = ⟨[.fz .town, .fz (.int L), .fz (.int n), .fz (.int sp), .fz (.lst (ps.map pD)), .fz (.int t), .fz (.int a), .ow 1 (.lst ((gs.eraseIdx d.toNat).map pD)), .ow 3 (bldD bs), .fz (.int to), .fz (.int goal), a11], w2⟩) ?_ fun s q => ?_
        · rw [pop_own (xs := gs.map pD) (x := d) (j := d.toNat) (s1 := ⟨[.fz .town, .fz (.int L), .fz (.int n), .fz (.int sp), .fz (.lst (ps.map pD)), .fz (.int t), .fz (.int a), .ow 1 (.lst (gs.map pD)), .ow 3 (bldD bs), a9, a10, a11], w2⟩) rfl (by simp only [ex_skip, ex_seq, ex_asg, ex_asgo, ex_par, ex_aug, ex_xpr, ex_ite, ex_ret, ex_retn, ex_rai, ex_fr, ex_whl, ev_var, ev_cst, ev_glb, ev_tup, ev_lst, ev_bin, ev_neg, ev_not, ev_and, ev_or, ev_ife, ev_cmp, ev_chn, ev_call, ev_prm, ev_idx, ev_slc, ev_rev, ev_isi, ev_mkt, ev_draw, ev_comp, evA_nil, evA_cons, evP_nil, evP_cons, evO_nil, evO_cons, evI_rng, evI_enu, evI_zip, evI_it, evG_elt, evG_for, bind_bind, bind_ok, bind_exc, bind_stuck, bind_ite, opt_some, ofRW_ok, ofRW_exc, wp_ok, cmp_le, cmp_ge, cmp_lt, cmp_gt, cmp_eq, cmp_ne, cmp_eqb, cmp_isb, cmp_nisb, cmp_isn, cmp_nis, is_int_int, is_int_bl, is_int_str, is_int_tup, is_int_lst, is_int_non, is_bool_int, is_bool_bl, is_bool_str, is_bool_tup, is_bool_lst, is_bool_non, is_tuple_int, is_tuple_bl, is_tuple_str, is_tuple_tup, is_tuple_lst, is_tuple_non, is_list_int, is_list_bl, is_list_str, is_list_tup, is_list_lst, is_list_non, is_str_int, is_str_bl, is_str_str, is_str_tup, is_str_lst, is_str_non, nn_int, nn_bl, nn_str, nn_tup, nn_lst, nn_non, itY_tup, it_lst, sq_tup, sq_lst, len_own, len_beat, len_row, iter_own, iter_beat, iter_row, seq_own, seq_beat, seq_row, isi_own, isi_beat, isi_row, list_own, list_row, sorted_own, isN_row, add_int, sub_int, len_tup, len_lst, tuple_lst, tuple_tup, list_lst, list_tup, stTg, List.getElem?_cons_zero, List.getElem?_cons_succ, List.set_cons_zero, List.set_cons_succ, Option.map_some, Option.bind_some, Prim.look, List.headD_cons, List.tail_cons, slots0, List.zipIdx_cons, List.zipIdx_nil, List.map_cons, List.map_nil, List.lookup_nil, List.replicate_succ, List.replicate_zero, List.append_nil, List.nil_append, List.cons_append, unsl, backsl, List.foldl_cons, List.foldl_nil, flowD, if_true, if_false, Bool.not_true, Bool.not_false, Bool.false_eq_true, Nat.le_refl, Nat.reduceLeDiff, Nat.reduceLT, and_self, true_and, and_true, ed, List.length_map]) rfl (by omega) (by rw [List.length_map]; exact hj) (by rw [List.length_map]; have := bk.len; omega)]
          rw [List.getElem_map, hq, pD_tg, opt_some, bind_ok, erase_map]
          exact ⟨rfl, rfl⟩
        subst q
        have hnn : (0 : Int) < n := by omega
        have m0 := Int.emod_nonneg ((to : Int) - t) (show (n : Int) ≠ 0 by omega)
        have m1 := Int.emod_lt_of_pos ((to : Int) - t) hnn
        have tx : ∀ x : Int, x = ((to : Int) - t) % n ∨ x = n ∧ ((to : Int) - t) % n = 0 → toT n t (x, (goal : Int)) = to := fun x hx => by
          unfold toT
          rcases hx with rfl | ⟨rfl, h0⟩
          · show (((t : Int) + ((to : Int) - t) % n) % n).toNat = to
            rw [Int.add_emod_emod, show (t : Int) + ((to : Int) - t) = to by omega, Int.emod_eq_of_lt (by omega) (by have := hto.1; simp only at this; omega)]
            omega
          · show (((t : Int) + n) % n).toNat = to
            rw [Int.add_emod_right]
            have h1 := Int.emod_eq_of_lt (a := (t : Int)) (b := n) (by omega) (by omega)
            have h2 := Int.emod_eq_of_lt (a := (to : Int)) (b := n) (by omega) (by have := hto.1; simp only at this; omega)
            rw [Int.sub_emod, h1, h2] at h0
            rw [h1]
            have h3 : (to : Int) - t = 0 := by
              have := Int.emod_emod_of_dvd
              by_cases hc : (0 : Int) ≤ (to : Int) - t
              · rw [Int.emod_eq_of_lt hc (by have := hto.1; simp only at this; omega)] at h0; exact h0
              · have h4 : ((to : Int) - t + n) % n = 0 := by rw [Int.add_emod_right]; exact h0
                rw [Int.emod_eq_of_lt (by omega) (by omega)] at h4
                omega
            omega
        refine wp_seq (fun s => s = ⟨[.fz .town, .fz (.int L), .fz (.int n), .fz (.int sp), .fz (.lst (ps.map pD)), .fz (.int t), .fz (.int a), .ow 1 (.lst ((gs.eraseIdx d.toNat).map pD)), .ow 3 (bldD bs), .fz (.int to), .fz (.int goal), .fz (.int (((to : Int) - t) % n))], w2⟩) ?_ fun s q => ?_
        · simp only [ex_skip, ex_seq, ex_asg, ex_asgo, ex_par, ex_aug, ex_xpr, ex_ite, ex_ret, ex_retn, ex_rai, ex_fr, ex_whl, ev_var, ev_cst, ev_glb, ev_tup, ev_lst, ev_bin, ev_neg, ev_not, ev_and, ev_or, ev_ife, ev_cmp, ev_chn, ev_call, ev_prm, ev_idx, ev_slc, ev_rev, ev_isi, ev_mkt, ev_draw, ev_comp, evA_nil, evA_cons, evP_nil, evP_cons, evO_nil, evO_cons, evI_rng, evI_enu, evI_zip, evI_it, evG_elt, evG_for, bind_bind, bind_ok, bind_exc, bind_stuck, bind_ite, opt_some, ofRW_ok, ofRW_exc, wp_ok, cmp_le, cmp_ge, cmp_lt, cmp_gt, cmp_eq, cmp_ne, cmp_eqb, cmp_isb, cmp_nisb, cmp_isn, cmp_nis, is_int_int, is_int_bl, is_int_str, is_int_tup, is_int_lst, is_int_non, is_bool_int, is_bool_bl, is_bool_str, is_bool_tup, is_bool_lst, is_bool_non, is_tuple_int, is_tuple_bl, is_tuple_str, is_tuple_tup, is_tuple_lst, is_tuple_non, is_list_int, is_list_bl, is_list_str, is_list_tup, is_list_lst, is_list_non, is_str_int, is_str_bl, is_str_str, is_str_tup, is_str_lst, is_str_non, nn_int, nn_bl, nn_str, nn_tup, nn_lst, nn_non, itY_tup, it_lst, sq_tup, sq_lst, len_own, len_beat, len_row, iter_own, iter_beat, iter_row, seq_own, seq_beat, seq_row, isi_own, isi_beat, isi_row, list_own, list_row, sorted_own, isN_row, add_int, sub_int, len_tup, len_lst, tuple_lst, tuple_tup, list_lst, list_tup, stTg, List.getElem?_cons_zero, List.getElem?_cons_succ, List.set_cons_zero, List.set_cons_succ, Option.map_some, Option.bind_some, Prim.look, List.headD_cons, List.tail_cons, slots0, List.zipIdx_cons, List.zipIdx_nil, List.map_cons, List.map_nil, List.lookup_nil, List.replicate_succ, List.replicate_zero, List.append_nil, List.nil_append, List.cons_append, unsl, backsl, List.foldl_cons, List.foldl_nil, flowD, if_true, if_false, Bool.not_true, Bool.not_false, Bool.false_eq_true, Nat.le_refl, Nat.reduceLeDiff, Nat.reduceLT, and_self, true_and, and_true, mod_int hnn]
        subst q
        refine wp_seq (fun s => ∃ x : Int, s = ⟨[.fz .town, .fz (.int L), .fz (.int n), .fz (.int sp), .fz (.lst (ps.map pD)), .fz (.int t), .fz (.int a), .ow 1 (.lst ((gs.eraseIdx d.toNat).map pD)), .ow 3 (bldD bs), .fz (.int to), .fz (.int goal), .fz (.int x)], w2⟩ ∧ (1 ≤ x ∧ x ≤ 15) ∧ toT n t (x, (goal : Int)) = to) ?_ fun s q => ?_
        · by_cases h0 : 0 < ((to : Int) - t) % n
          · simp only [ex_skip, ex_seq, ex_asg, ex_asgo, ex_par, ex_aug, ex_xpr, ex_ite, ex_ret, ex_retn, ex_rai, ex_fr, ex_whl, ev_var, ev_cst, ev_glb, ev_tup, ev_lst, ev_bin, ev_neg, ev_not, ev_and, ev_or, ev_ife, ev_cmp, ev_chn, ev_call, ev_prm, ev_idx, ev_slc, ev_rev, ev_isi, ev_mkt, ev_draw, ev_comp, evA_nil, evA_cons, evP_nil, evP_cons, evO_nil, evO_cons, evI_rng, evI_enu, evI_zip, evI_it, evG_elt, evG_for, bind_bind, bind_ok, bind_exc, bind_stuck, bind_ite, opt_some, ofRW_ok, ofRW_exc, wp_ok, cmp_le, cmp_ge, cmp_lt, cmp_gt, cmp_eq, cmp_ne, cmp_eqb, cmp_isb, cmp_nisb, cmp_isn, cmp_nis, is_int_int, is_int_bl, is_int_str, is_int_tup, is_int_lst, is_int_non, is_bool_int, is_bool_bl, is_bool_str, is_bool_tup, is_bool_lst, is_bool_non, is_tuple_int, is_tuple_bl, is_tuple_str, is_tuple_tup, is_tuple_lst, is_tuple_non, is_list_int, is_list_bl, is_list_str, is_list_tup, is_list_lst, is_list_non, is_str_int, is_str_bl, is_str_str, is_str_tup, is_str_lst, is_str_non, nn_int, nn_bl, nn_str, nn_tup, nn_lst, nn_non, itY_tup, it_lst, sq_tup, sq_lst, len_own, len_beat, len_row, iter_own, iter_beat, iter_row, seq_own, seq_beat, seq_row, isi_own, isi_beat, isi_row, list_own, list_row, sorted_own, isN_row, add_int, sub_int, len_tup, len_lst, tuple_lst, tuple_tup, list_lst, list_tup, stTg, List.getElem?_cons_zero, List.getElem?_cons_succ, List.set_cons_zero, List.set_cons_succ, Option.map_some, Option.bind_some, Prim.look, List.headD_cons, List.tail_cons, slots0, List.zipIdx_cons, List.zipIdx_nil, List.map_cons, List.map_nil, List.lookup_nil, List.replicate_succ, List.replicate_zero, List.append_nil, List.nil_append, List.cons_append, unsl, backsl, List.foldl_cons, List.foldl_nil, flowD, if_true, if_false, Bool.not_true, Bool.not_false, Bool.false_eq_true, Nat.le_refl, Nat.reduceLeDiff, Nat.reduceLT, and_self, true_and, and_true, decide_eq_true h0]
            exact ⟨_, rfl, ⟨by omega, by omega⟩, tx _ (.inl rfl)⟩
          · simp only [ex_skip, ex_seq, ex_asg, ex_asgo, ex_par, ex_aug, ex_xpr, ex_ite, ex_ret, ex_retn, ex_rai, ex_fr, ex_whl, ev_var, ev_cst, ev_glb, ev_tup, ev_lst, ev_bin, ev_neg, ev_not, ev_and, ev_or, ev_ife, ev_cmp, ev_chn, ev_call, ev_prm, ev_idx, ev_slc, ev_rev, ev_isi, ev_mkt, ev_draw, ev_comp, evA_nil, evA_cons, evP_nil, evP_cons, evO_nil, evO_cons, evI_rng, evI_enu, evI_zip, evI_it, evG_elt, evG_for, bind_bind, bind_ok, bind_exc, bind_stuck, bind_ite, opt_some, ofRW_ok, ofRW_exc, wp_ok, cmp_le, cmp_ge, cmp_lt, cmp_gt, cmp_eq, cmp_ne, cmp_eqb, cmp_isb, cmp_nisb, cmp_isn, cmp_nis, is_int_int, is_int_bl, is_int_str, is_int_tup, is_int_lst, is_int_non, is_bool_int, is_bool_bl, is_bool_str, is_bool_tup, is_bool_lst, is_bool_non, is_tuple_int, is_tuple_bl, is_tuple_str, is_tuple_tup, is_tuple_lst, is_tuple_non, is_list_int, is_list_bl, is_list_str, is_list_tup, is_list_lst, is_list_non, is_str_int, is_str_bl, is_str_str, is_str_tup, is_str_lst, is_str_non, nn_int, nn_bl, nn_str, nn_tup, nn_lst, nn_non, itY_tup, it_lst, sq_tup, sq_lst, len_own, len_beat, len_row, iter_own, iter_beat, iter_row, seq_own, seq_beat, seq_row, isi_own, isi_beat, isi_row, list_own, list_row, sorted_own, isN_row, add_int, sub_int, len_tup, len_lst, tuple_lst, tuple_tup, list_lst, list_tup, stTg, List.getElem?_cons_zero, List.getElem?_cons_succ, List.set_cons_zero, List.set_cons_succ, Option.map_some, Option.bind_some, Prim.look, List.headD_cons, List.tail_cons, slots0, List.zipIdx_cons, List.zipIdx_nil, List.map_cons, List.map_nil, List.lookup_nil, List.replicate_succ, List.replicate_zero, List.append_nil, List.nil_append, List.cons_append, unsl, backsl, List.foldl_cons, List.foldl_nil, flowD, if_true, if_false, Bool.not_true, Bool.not_false, Bool.false_eq_true, Nat.le_refl, Nat.reduceLeDiff, Nat.reduceLT, and_self, true_and, and_true, decide_eq_false h0]
            exact ⟨_, rfl, ⟨by omega, by omega⟩, tx _ (.inr ⟨rfl, by omega⟩)⟩
        obtain ⟨x, rfl, hx, ex⟩ := q
        refine wp_seq (fun s => ∃ (x : Int) (w3 : Wd), s = ⟨[.fz .town, .fz (.int L), .fz (.int n), .fz (.int sp), .fz (.lst (ps.map pD)), .fz (.int t), .fz (.int a), .ow 1 (.lst ((gs.eraseIdx d.toNat).map pD)), .ow 3 (bldD bs), .fz (.int to), .fz (.int goal), .fz (.int x)], w3⟩ ∧ GW w3 ∧ (1 ≤ x ∧ x ≤ 15) ∧ toT n t (x, (goal : Int)) = to) ?_ fun s q => ?_
        · obtain ⟨d3, w3, ed3, _, _, g3⟩ := draw_ok (n := 9) g2 (by omega) (by omega)
          obtain ⟨y1, y2, y3, y4⟩ := tall_le (n := (n : Int)) (by omega) hx.2
          by_cases h0 : d3 = 0
          · simp only [ex_skip, ex_seq, ex_asg, ex_asgo, ex_par, ex_aug, ex_xpr, ex_ite, ex_ret, ex_retn, ex_rai, ex_fr, ex_whl, ev_var, ev_cst, ev_glb, ev_tup, ev_lst, ev_bin, ev_neg, ev_not, ev_and, ev_or, ev_ife, ev_cmp, ev_chn, ev_call, ev_prm, ev_idx, ev_slc, ev_rev, ev_isi, ev_mkt, ev_draw, ev_comp, evA_nil, evA_cons, evP_nil, evP_cons, evO_nil, evO_cons, evI_rng, evI_enu, evI_zip, evI_it, evG_elt, evG_for, bind_bind, bind_ok, bind_exc, bind_stuck, bind_ite, opt_some, ofRW_ok, ofRW_exc, wp_ok, cmp_le, cmp_ge, cmp_lt, cmp_gt, cmp_eq, cmp_ne, cmp_eqb, cmp_isb, cmp_nisb, cmp_isn, cmp_nis, is_int_int, is_int_bl, is_int_str, is_int_tup, is_int_lst, is_int_non, is_bool_int, is_bool_bl, is_bool_str, is_bool_tup, is_bool_lst, is_bool_non, is_tuple_int, is_tuple_bl, is_tuple_str, is_tuple_tup, is_tuple_lst, is_tuple_non, is_list_int, is_list_bl, is_list_str, is_list_tup, is_list_lst, is_list_non, is_str_int, is_str_bl, is_str_str, is_str_tup, is_str_lst, is_str_non, nn_int, nn_bl, nn_str, nn_tup, nn_lst, nn_non, itY_tup, it_lst, sq_tup, sq_lst, len_own, len_beat, len_row, iter_own, iter_beat, iter_row, seq_own, seq_beat, seq_row, isi_own, isi_beat, isi_row, list_own, list_row, sorted_own, isN_row, add_int, sub_int, len_tup, len_lst, tuple_lst, tuple_tup, list_lst, list_tup, stTg, List.getElem?_cons_zero, List.getElem?_cons_succ, List.set_cons_zero, List.set_cons_succ, Option.map_some, Option.bind_some, Prim.look, List.headD_cons, List.tail_cons, slots0, List.zipIdx_cons, List.zipIdx_nil, List.map_cons, List.map_nil, List.lookup_nil, List.replicate_succ, List.replicate_zero, List.append_nil, List.nil_append, List.cons_append, unsl, backsl, List.foldl_cons, List.foldl_nil, flowD, if_true, if_false, Bool.not_true, Bool.not_false, Bool.false_eq_true, Nat.le_refl, Nat.reduceLeDiff, Nat.reduceLT, and_self, true_and, and_true, ed3, decide_eq_true h0, fdiv_int hnn (show (n : Int) < 1073741824 by omega), mul_int (a := (15 - x) / (n : Int)) (b := (n : Int)) (.inr (small_of (by omega) (by omega)))]
            exact ⟨_, _, rfl, g3, ⟨by omega, by omega⟩, by rw [toT_mod (x := x) (c := (15 - x) / (n : Int)) rfl]; exact ex⟩
          · simp only [ex_skip, ex_seq, ex_asg, ex_asgo, ex_par, ex_aug, ex_xpr, ex_ite, ex_ret, ex_retn, ex_rai, ex_fr, ex_whl, ev_var, ev_cst, ev_glb, ev_tup, ev_lst, ev_bin, ev_neg, ev_not, ev_and, ev_or, ev_ife, ev_cmp, ev_chn, ev_call, ev_prm, ev_idx, ev_slc, ev_rev, ev_isi, ev_mkt, ev_draw, ev_comp, evA_nil, evA_cons, evP_nil, evP_cons, evO_nil, evO_cons, evI_rng, evI_enu, evI_zip, evI_it, evG_elt, evG_for, bind_bind, bind_ok, bind_exc, bind_stuck, bind_ite, opt_some, ofRW_ok, ofRW_exc, wp_ok, cmp_le, cmp_ge, cmp_lt, cmp_gt, cmp_eq, cmp_ne, cmp_eqb, cmp_isb, cmp_nisb, cmp_isn, cmp_nis, is_int_int, is_int_bl, is_int_str, is_int_tup, is_int_lst, is_int_non, is_bool_int, is_bool_bl, is_bool_str, is_bool_tup, is_bool_lst, is_bool_non, is_tuple_int, is_tuple_bl, is_tuple_str, is_tuple_tup, is_tuple_lst, is_tuple_non, is_list_int, is_list_bl, is_list_str, is_list_tup, is_list_lst, is_list_non, is_str_int, is_str_bl, is_str_str, is_str_tup, is_str_lst, is_str_non, nn_int, nn_bl, nn_str, nn_tup, nn_lst, nn_non, itY_tup, it_lst, sq_tup, sq_lst, len_own, len_beat, len_row, iter_own, iter_beat, iter_row, seq_own, seq_beat, seq_row, isi_own, isi_beat, isi_row, list_own, list_row, sorted_own, isN_row, add_int, sub_int, len_tup, len_lst, tuple_lst, tuple_tup, list_lst, list_tup, stTg, List.getElem?_cons_zero, List.getElem?_cons_succ, List.set_cons_zero, List.set_cons_succ, Option.map_some, Option.bind_some, Prim.look, List.headD_cons, List.tail_cons, slots0, List.zipIdx_cons, List.zipIdx_nil, List.map_cons, List.map_nil, List.lookup_nil, List.replicate_succ, List.replicate_zero, List.append_nil, List.nil_append, List.cons_append, unsl, backsl, List.foldl_cons, List.foldl_nil, flowD, if_true, if_false, Bool.not_true, Bool.not_false, Bool.false_eq_true, Nat.le_refl, Nat.reduceLeDiff, Nat.reduceLT, and_self, true_and, and_true, ed3, decide_eq_false h0]
            exact ⟨_, _, rfl, g3, hx, ex⟩
        obtain ⟨x, w3, rfl, g3, hx, ex⟩ := q
        refine wp_seq (fun s => ∃ (x : Int) (w3 : Wd), s = ⟨[.fz .town, .fz (.int L), .fz (.int n), .fz (.int sp), .fz (.lst (ps.map pD)), .fz (.int t), .fz (.int a), .ow 1 (.lst ((gs.eraseIdx d.toNat).map pD)), .ow 3 (bldD bs), .fz (.int to), .fz (.int goal), .fz (.int x)], w3⟩ ∧ GW w3 ∧ (1 ≤ x ∧ x ≤ 15) ∧ toT n t (x, (goal : Int)) = to) ?_ fun s q => ?_
        · rw [ex_whl]
          refine wp_while (fun m s => ∃ (x : Int) (w3 : Wd), s = ⟨[.fz .town, .fz (.int L), .fz (.int n), .fz (.int sp), .fz (.lst (ps.map pD)), .fz (.int t), .fz (.int a), .ow 1 (.lst ((gs.eraseIdx d.toNat).map pD)), .ow 3 (bldD bs), .fz (.int to), .fz (.int goal), .fz (.int x)], w3⟩ ∧ GW w3 ∧ (1 ≤ x ∧ x ≤ 15) ∧ toT n t (x, (goal : Int)) = to ∧ (20 - x).toNat ≤ m) (fun m s q => ?_) fuel (20 - x).toNat _ (by unfold fuel; omega) ⟨x, w3, rfl, g3, hx, ex, Nat.le_refl _⟩
          obtain ⟨x, w3, rfl, g3, hx, ex, hm⟩ := q
          obtain ⟨d4, w4, ed4, _, _, g4⟩ := draw_ok (n := 3) g3 (by omega) (by omega)
          by_cases h0 : x + (n : Int) ≤ 9
          · by_cases h1 : d4 = 0
            · simp only [ex_skip, ex_seq, ex_asg, ex_asgo, ex_par, ex_aug, ex_xpr, ex_ite, ex_ret, ex_retn, ex_rai, ex_fr, ex_whl, ev_var, ev_cst, ev_glb, ev_tup, ev_lst, ev_bin, ev_neg, ev_not, ev_and, ev_or, ev_ife, ev_cmp, ev_chn, ev_call, ev_prm, ev_idx, ev_slc, ev_rev, ev_isi, ev_mkt, ev_draw, ev_comp, evA_nil, evA_cons, evP_nil, evP_cons, evO_nil, evO_cons, evI_rng, evI_enu, evI_zip, evI_it, evG_elt, evG_for, bind_bind, bind_ok, bind_exc, bind_stuck, bind_ite, opt_some, ofRW_ok, ofRW_exc, wp_ok, cmp_le, cmp_ge, cmp_lt, cmp_gt, cmp_eq, cmp_ne, cmp_eqb, cmp_isb, cmp_nisb, cmp_isn, cmp_nis, is_int_int, is_int_bl, is_int_str, is_int_tup, is_int_lst, is_int_non, is_bool_int, is_bool_bl, is_bool_str, is_bool_tup, is_bool_lst, is_bool_non, is_tuple_int, is_tuple_bl, is_tuple_str, is_tuple_tup, is_tuple_lst, is_tuple_non, is_list_int, is_list_bl, is_list_str, is_list_tup, is_list_lst, is_list_non, is_str_int, is_str_bl, is_str_str, is_str_tup, is_str_lst, is_str_non, nn_int, nn_bl, nn_str, nn_tup, nn_lst, nn_non, itY_tup, it_lst, sq_tup, sq_lst, len_own, len_beat, len_row, iter_own, iter_beat, iter_row, seq_own, seq_beat, seq_row, isi_own, isi_beat, isi_row, list_own, list_row, sorted_own, isN_row, add_int, sub_int, len_tup, len_lst, tuple_lst, tuple_tup, list_lst, list_tup, stTg, List.getElem?_cons_zero, List.getElem?_cons_succ, List.set_cons_zero, List.set_cons_succ, Option.map_some, Option.bind_some, Prim.look, List.headD_cons, List.tail_cons, slots0, List.zipIdx_cons, List.zipIdx_nil, List.map_cons, List.map_nil, List.lookup_nil, List.replicate_succ, List.replicate_zero, List.append_nil, List.nil_append, List.cons_append, unsl, backsl, List.foldl_cons, List.foldl_nil, flowD, if_true, if_false, Bool.not_true, Bool.not_false, Bool.false_eq_true, Nat.le_refl, Nat.reduceLeDiff, Nat.reduceLT, and_self, true_and, and_true, condF, decide_eq_true h0, ed4, decide_eq_true h1]
              exact ⟨by omega, _, _, rfl, g4, ⟨by omega, by omega⟩, by rw [toT_mod (x := x) (c := 1) (by omega)]; exact ex, by omega⟩
            · simp only [ex_skip, ex_seq, ex_asg, ex_asgo, ex_par, ex_aug, ex_xpr, ex_ite, ex_ret, ex_retn, ex_rai, ex_fr, ex_whl, ev_var, ev_cst, ev_glb, ev_tup, ev_lst, ev_bin, ev_neg, ev_not, ev_and, ev_or, ev_ife, ev_cmp, ev_chn, ev_call, ev_prm, ev_idx, ev_slc, ev_rev, ev_isi, ev_mkt, ev_draw, ev_comp, evA_nil, evA_cons, evP_nil, evP_cons, evO_nil, evO_cons, evI_rng, evI_enu, evI_zip, evI_it, evG_elt, evG_for, bind_bind, bind_ok, bind_exc, bind_stuck, bind_ite, opt_some, ofRW_ok, ofRW_exc, wp_ok, cmp_le, cmp_ge, cmp_lt, cmp_gt, cmp_eq, cmp_ne, cmp_eqb, cmp_isb, cmp_nisb, cmp_isn, cmp_nis, is_int_int, is_int_bl, is_int_str, is_int_tup, is_int_lst, is_int_non, is_bool_int, is_bool_bl, is_bool_str, is_bool_tup, is_bool_lst, is_bool_non, is_tuple_int, is_tuple_bl, is_tuple_str, is_tuple_tup, is_tuple_lst, is_tuple_non, is_list_int, is_list_bl, is_list_str, is_list_tup, is_list_lst, is_list_non, is_str_int, is_str_bl, is_str_str, is_str_tup, is_str_lst, is_str_non, nn_int, nn_bl, nn_str, nn_tup, nn_lst, nn_non, itY_tup, it_lst, sq_tup, sq_lst, len_own, len_beat, len_row, iter_own, iter_beat, iter_row, seq_own, seq_beat, seq_row, isi_own, isi_beat, isi_row, list_own, list_row, sorted_own, isN_row, add_int, sub_int, len_tup, len_lst, tuple_lst, tuple_tup, list_lst, list_tup, stTg, List.getElem?_cons_zero, List.getElem?_cons_succ, List.set_cons_zero, List.set_cons_succ, Option.map_some, Option.bind_some, Prim.look, List.headD_cons, List.tail_cons, slots0, List.zipIdx_cons, List.zipIdx_nil, List.map_cons, List.map_nil, List.lookup_nil, List.replicate_succ, List.replicate_zero, List.append_nil, List.nil_append, List.cons_append, unsl, backsl, List.foldl_cons, List.foldl_nil, flowD, if_true, if_false, Bool.not_true, Bool.not_false, Bool.false_eq_true, Nat.le_refl, Nat.reduceLeDiff, Nat.reduceLT, and_self, true_and, and_true, condF, decide_eq_true h0, ed4, decide_eq_false h1]
              exact ⟨_, _, rfl, g4, hx, ex⟩
          · simp only [ex_skip, ex_seq, ex_asg, ex_asgo, ex_par, ex_aug, ex_xpr, ex_ite, ex_ret, ex_retn, ex_rai, ex_fr, ex_whl, ev_var, ev_cst, ev_glb, ev_tup, ev_lst, ev_bin, ev_neg, ev_not, ev_and, ev_or, ev_ife, ev_cmp, ev_chn, ev_call, ev_prm, ev_idx, ev_slc, ev_rev, ev_isi, ev_mkt, ev_draw, ev_comp, evA_nil, evA_cons, evP_nil, evP_cons, evO_nil, evO_cons, evI_rng, evI_enu, evI_zip, evI_it, evG_elt, evG_for, bind_bind, bind_ok, bind_exc, bind_stuck, bind_ite, opt_some, ofRW_ok, ofRW_exc, wp_ok, cmp_le, cmp_ge, cmp_lt, cmp_gt, cmp_eq, cmp_ne, cmp_eqb, cmp_isb, cmp_nisb, cmp_isn, cmp_nis, is_int_int, is_int_bl, is_int_str, is_int_tup, is_int_lst, is_int_non, is_bool_int, is_bool_bl, is_bool_str, is_bool_tup, is_bool_lst, is_bool_non, is_tuple_int, is_tuple_bl, is_tuple_str, is_tuple_tup, is_tuple_lst, is_tuple_non, is_list_int, is_list_bl, is_list_str, is_list_tup, is_list_lst, is_list_non, is_str_int, is_str_bl, is_str_str, is_str_tup, is_str_lst, is_str_non, nn_int, nn_bl, nn_str, nn_tup, nn_lst, nn_non, itY_tup, it_lst, sq_tup, sq_lst, len_own, len_beat, len_row, iter_own, iter_beat, iter_row, seq_own, seq_beat, seq_row, isi_own, isi_beat, isi_row, list_own, list_row, sorted_own, isN_row, add_int, sub_int, len_tup, len_lst, tuple_lst, tuple_tup, list_lst, list_tup, stTg, List.getElem?_cons_zero, List.getElem?_cons_succ, List.set_cons_zero, List.set_cons_succ, Option.map_some, Option.bind_some, Prim.look, List.headD_cons, List.tail_cons, slots0, List.zipIdx_cons, List.zipIdx_nil, List.map_cons, List.map_nil, List.lookup_nil, List.replicate_succ, List.replicate_zero, List.append_nil, List.nil_append, List.cons_append, unsl, backsl, List.foldl_cons, List.foldl_nil, flowD, if_true, if_false, Bool.not_true, Bool.not_false, Bool.false_eq_true, Nat.le_refl, Nat.reduceLeDiff, Nat.reduceLT, and_self, true_and, and_true, condF, decide_eq_false h0]
            exact ⟨_, _, rfl, g3, hx, ex⟩
        obtain ⟨x, w3, rfl, g3, hx, ex⟩ := q
        have hstep := hstep hx ex hdn
        rw [bs_app (z := (x, (goal : Int))) (x := (t : Int)) (y := (a : Int)) rfl bk.sq ht ha rfl rfl (by simp only [ex_skip, ex_seq, ex_asg, ex_asgo, ex_par, ex_aug, ex_xpr, ex_ite, ex_ret, ex_retn, ex_rai, ex_fr, ex_whl, ev_var, ev_cst, ev_glb, ev_tup, ev_lst, ev_bin, ev_neg, ev_not, ev_and, ev_or, ev_ife, ev_cmp, ev_chn, ev_call, ev_prm, ev_idx, ev_slc, ev_rev, ev_isi, ev_mkt, ev_draw, ev_comp, evA_nil, evA_cons, evP_nil, evP_cons, evO_nil, evO_cons, evI_rng, evI_enu, evI_zip, evI_it, evG_elt, evG_for, bind_bind, bind_ok, bind_exc, bind_stuck, bind_ite, opt_some, ofRW_ok, ofRW_exc, wp_ok, cmp_le, cmp_ge, cmp_lt, cmp_gt, cmp_eq, cmp_ne, cmp_eqb, cmp_isb, cmp_nisb, cmp_isn, cmp_nis, is_int_int, is_int_bl, is_int_str, is_int_tup, is_int_lst, is_int_non, is_bool_int, is_bool_bl, is_bool_str, is_bool_tup, is_bool_lst, is_bool_non, is_tuple_int, is_tuple_bl, is_tuple_str, is_tuple_tup, is_tuple_lst, is_tuple_non, is_list_int, is_list_bl, is_list_str, is_list_tup, is_list_lst, is_list_non, is_str_int, is_str_bl, is_str_str, is_str_tup, is_str_lst, is_str_non, nn_int, nn_bl, nn_str, nn_tup, nn_lst, nn_non, itY_tup, it_lst, sq_tup, sq_lst, len_own, len_beat, len_row, iter_own, iter_beat, iter_row, seq_own, seq_beat, seq_row, isi_own, isi_beat, isi_row, list_own, list_row, sorted_own, isN_row, add_int, sub_int, len_tup, len_lst, tuple_lst, tuple_tup, list_lst, list_tup, stTg, List.getElem?_cons_zero, List.getElem?_cons_succ, List.set_cons_zero, List.set_cons_succ, Option.map_some, Option.bind_some, Prim.look, List.headD_cons, List.tail_cons, slots0, List.zipIdx_cons, List.zipIdx_nil, List.map_cons, List.map_nil, List.lookup_nil, List.replicate_succ, List.replicate_zero, List.append_nil, List.nil_append, List.cons_append, unsl, backsl, List.foldl_cons, List.foldl_nil, flowD, if_true, if_false, Bool.not_true, Bool.not_false, Bool.false_eq_true, Nat.le_refl, Nat.reduceLeDiff, Nat.reduceLT, and_self, true_and, and_true]) (by simp only [ex_skip, ex_seq, ex_asg, ex_asgo, ex_par, ex_aug, ex_xpr, ex_ite, ex_ret, ex_retn, ex_rai, ex_fr, ex_whl, ev_var, ev_cst, ev_glb, ev_tup, ev_lst, ev_bin, ev_neg, ev_not, ev_and, ev_or, ev_ife, ev_cmp, ev_chn, ev_call, ev_prm, ev_idx, ev_slc, ev_rev, ev_isi, ev_mkt, ev_draw, ev_comp, evA_nil, evA_cons, evP_nil, evP_cons, evO_nil, evO_cons, evI_rng, evI_enu, evI_zip, evI_it, evG_elt, evG_for, bind_bind, bind_ok, bind_exc, bind_stuck, bind_ite, opt_some, ofRW_ok, ofRW_exc, wp_ok, cmp_le, cmp_ge, cmp_lt, cmp_gt, cmp_eq, cmp_ne, cmp_eqb, cmp_isb, cmp_nisb, cmp_isn, cmp_nis, is_int_int, is_int_bl, is_int_str, is_int_tup, is_int_lst, is_int_non, is_bool_int, is_bool_bl, is_bool_str, is_bool_tup, is_bool_lst, is_bool_non, is_tuple_int, is_tuple_bl, is_tuple_str, is_tuple_tup, is_tuple_lst, is_tuple_non, is_list_int, is_list_bl, is_list_str, is_list_tup, is_list_lst, is_list_non, is_str_int, is_str_bl, is_str_str, is_str_tup, is_str_lst, is_str_non, nn_int, nn_bl, nn_str, nn_tup, nn_lst, nn_non, itY_tup, it_lst, sq_tup, sq_lst, len_own, len_beat, len_row, iter_own, iter_beat, iter_row, seq_own, seq_beat, seq_row, isi_own, isi_beat, isi_row, list_own, list_row, sorted_own, isN_row, add_int, sub_int, len_tup, len_lst, tuple_lst, tuple_tup, list_lst, list_tup, stTg, List.getElem?_cons_zero, List.getElem?_cons_succ, List.set_cons_zero, List.set_cons_succ, Option.map_some, Option.bind_some, Prim.look, List.headD_cons, List.tail_cons, slots0, List.zipIdx_cons, List.zipIdx_nil, List.map_cons, List.map_nil, List.lookup_nil, List.replicate_succ, List.replicate_zero, List.append_nil, List.nil_append, List.cons_append, unsl, backsl, List.foldl_cons, List.foldl_nil, flowD, if_true, if_false, Bool.not_true, Bool.not_false, Bool.false_eq_true, Nat.le_refl, Nat.reduceLeDiff, Nat.reduceLT, and_self, true_and, and_true]) (s1 := ⟨[.fz .town, .fz (.int L), .fz (.int n), .fz (.int sp), .fz (.lst (ps.map pD)), .fz (.int t), .fz (.int a), .ow 1 (.lst ((gs.eraseIdx d.toNat).map pD)), .ow 3 (bldD bs), .fz (.int to), .fz (.int goal), .fz (.int x)], w3⟩) (by simp only [ex_skip, ex_seq, ex_asg, ex_asgo, ex_par, ex_aug, ex_xpr, ex_ite, ex_ret, ex_retn, ex_rai, ex_fr, ex_whl, ev_var, ev_cst, ev_glb, ev_tup, ev_lst, ev_bin, ev_neg, ev_not, ev_and, ev_or, ev_ife, ev_cmp, ev_chn, ev_call, ev_prm, ev_idx, ev_slc, ev_rev, ev_isi, ev_mkt, ev_draw, ev_comp, evA_nil, evA_cons, evP_nil, evP_cons, evO_nil, evO_cons, evI_rng, evI_enu, evI_zip, evI_it, evG_elt, evG_for, bind_bind, bind_ok, bind_exc, bind_stuck, bind_ite, opt_some, ofRW_ok, ofRW_exc, wp_ok, cmp_le, cmp_ge, cmp_lt, cmp_gt, cmp_eq, cmp_ne, cmp_eqb, cmp_isb, cmp_nisb, cmp_isn, cmp_nis, is_int_int, is_int_bl, is_int_str, is_int_tup, is_int_lst, is_int_non, is_bool_int, is_bool_bl, is_bool_str, is_bool_tup, is_bool_lst, is_bool_non, is_tuple_int, is_tuple_bl, is_tuple_str, is_tuple_tup, is_tuple_lst, is_tuple_non, is_list_int, is_list_bl, is_list_str, is_list_tup, is_list_lst, is_list_non, is_str_int, is_str_bl, is_str_str, is_str_tup, is_str_lst, is_str_non, nn_int, nn_bl, nn_str, nn_tup, nn_lst, nn_non, itY_tup, it_lst, sq_tup, sq_lst, len_own, len_beat, len_row, iter_own, iter_beat, iter_row, seq_own, seq_beat, seq_row, isi_own, isi_beat, isi_row, list_own, list_row, sorted_own, isN_row, add_int, sub_int, len_tup, len_lst, tuple_lst, tuple_tup, list_lst, list_tup, stTg, List.getElem?_cons_zero, List.getElem?_cons_succ, List.set_cons_zero, List.set_cons_succ, Option.map_some, Option.bind_some, Prim.look, List.headD_cons, List.tail_cons, slots0, List.zipIdx_cons, List.zipIdx_nil, List.map_cons, List.map_nil, List.lookup_nil, List.replicate_succ, List.replicate_zero, List.append_nil, List.nil_append, List.cons_append, unsl, backsl, List.foldl_cons, List.foldl_nil, flowD, if_true, if_false, Bool.not_true, Bool.not_false, Bool.false_eq_true, Nat.le_refl, Nat.reduceLeDiff, Nat.reduceLT, and_self, true_and, and_true]; rfl) rfl (by rw [bk.own t ht a ha]; have := List.count_le_length (a := (t, a)) (l := dn); unfold line; omega)]
        exact ⟨_, gs.eraseIdx d.toNat, _, _, _, _, _, _, rfl, g3, hstep⟩
      · obtain ⟨bs, gs, a5, a6, a9, a10, a11, w1, rfl, g1, bk⟩ := q
        have g0 : gs = [] := List.length_eq_zero_iff.mp (by have := bk.len; omega)
        have hc : ∀ t < n, ∀ a < L, (own2 bs t a).length ≤ sp := fun t ht a ha => by rw [bk.own t ht a ha]; exact ok.cnt _
        have rk := row_of bk.sq n1 (by omega) l1 l2 (fun t ht a ha => Nat.le_trans (hc t ht a ha) hsp) bk.thr
        simp only [ex_skip, ex_seq, ex_asg, ex_asgo, ex_par, ex_aug, ex_xpr, ex_ite, ex_ret, ex_retn, ex_rai, ex_fr, ex_whl, ev_var, ev_cst, ev_glb, ev_tup, ev_lst, ev_bin, ev_neg, ev_not, ev_and, ev_or, ev_ife, ev_cmp, ev_chn, ev_call, ev_prm, ev_idx, ev_slc, ev_rev, ev_isi, ev_mkt, ev_draw, ev_comp, evA_nil, evA_cons, evP_nil, evP_cons, evO_nil, evO_cons, evI_rng, evI_enu, evI_zip, evI_it, evG_elt, evG_for, bind_bind, bind_ok, bind_exc, bind_stuck, bind_ite, opt_some, ofRW_ok, ofRW_exc, wp_ok, cmp_le, cmp_ge, cmp_lt, cmp_gt, cmp_eq, cmp_ne, cmp_eqb, cmp_isb, cmp_nisb, cmp_isn, cmp_nis, is_int_int, is_int_bl, is_int_str, is_int_tup, is_int_lst, is_int_non, is_bool_int, is_bool_bl, is_bool_str, is_bool_tup, is_bool_lst, is_bool_non, is_tuple_int, is_tuple_bl, is_tuple_str, is_tuple_tup, is_tuple_lst, is_tuple_non, is_list_int, is_list_bl, is_list_str, is_list_tup, is_list_lst, is_list_non, is_str_int, is_str_bl, is_str_str, is_str_tup, is_str_lst, is_str_non, nn_int, nn_bl, nn_str, nn_tup, nn_lst, nn_non, itY_tup, it_lst, sq_tup, sq_lst, len_own, len_beat, len_row, iter_own, iter_beat, iter_row, seq_own, seq_beat, seq_row, isi_own, isi_beat, isi_row, list_own, list_row, sorted_own, isN_row, add_int, sub_int, len_tup, len_lst, tuple_lst, tuple_tup, list_lst, list_tup, stTg, List.getElem?_cons_zero, List.getElem?_cons_succ, List.set_cons_zero, List.set_cons_succ, Option.map_some, Option.bind_some, Prim.look, List.headD_cons, List.tail_cons, slots0, List.zipIdx_cons, List.zipIdx_nil, List.map_cons, List.map_nil, List.lookup_nil, List.replicate_succ, List.replicate_zero, List.append_nil, List.nil_append, List.cons_append, unsl, backsl, List.foldl_cons, List.foldl_nil, flowD, if_true, if_false, Bool.not_true, Bool.not_false, Bool.false_eq_true, Nat.le_refl, Nat.reduceLeDiff, Nat.reduceLT, and_self, true_and, and_true, s_w_lined (r := bs) (by rw [bk.sq.len]; omega) (fun b hb => by
          obtain ⟨t, ht, rfl⟩ := List.getElem_of_mem hb
          have := bk.sq.wid t (by rw [← bk.sq.len]; exact ht)
          rw [getD_get _ [] ht] at this
          omega)]
        refine ⟨⟨_, rfl, rk, fits_of bk.sq rk (fun t ht l hl => ?_), by rw [lined_len, bk.sq.len], fun b hb o ho => ?_⟩, g1⟩
        · have := bk.cnt (t, l)
          rw [g0] at this
          rw [bk.own t ht l hl]
          simpa using this.symm
        · have sq : Sq n L (lined bs) := ⟨by rw [lined_len]; exact bk.sq.len, fun t ht => by rw [lined_get, List.length_map]; exact bk.sq.wid t ht⟩
          obtain ⟨t, ht, a, ha, rfl⟩ := mem_own2 sq hb ho
          rw [lined_own, ordT_len]
          exact hc t ht a ha
end Hx
namespace Hx
open PySem (Str)
theorem s_any_row {k : Nat} {w : Wd} (g : GW w) : ∃ v w', semT tbl (k + 3) 21 [.town] w = .ok v [] w' ∧ (∃ L r, v = rowD r ∧ RowOk L r ∧ clash L r = none ∧ r.length ≤ 5 ∧ L ≤ 3 ∧ ∀ b ∈ r, ∀ o ∈ b, o.length ≤ 3) ∧ GW w' := by
  refine sem_of (P := fun v w' => (∃ L r, v = rowD r ∧ RowOk L r ∧ clash L r = none ∧ r.length ≤ 5 ∧ L ≤ 3 ∧ ∀ b ∈ r, ∀ o ∈ b, o.length ≤ 3) ∧ GW w') (fn := f_w_any_row) rfl rfl ?_
  obtain ⟨v1, w1, e1, m1, g1⟩ := s_w_pick (k := k + 1) (xs := [.int 1, .int 1, .int 2, .int 2, .int 3]) g (by simp) (by simp)
  obtain ⟨d, w2, e2, d0, d1, g2⟩ := draw_ok (n := 5) g1 (by omega) (by omega)
  obtain ⟨v3, w3, e3, m3, g3⟩ := s_w_pick (k := k + 1) (xs := [.int 1, .int 1, .int 2, .int 3]) g2 (by simp) (by simp)
  have hL : ∃ L : Nat, v1 = .int L ∧ 1 ≤ L ∧ L ≤ 3 := by
    simp at m1
    rcases m1 with h | h | h
    · exact ⟨1, h, by omega, by omega⟩
    · exact ⟨2, h, by omega, by omega⟩
    · exact ⟨3, h, by omega, by omega⟩
  have hS : ∃ L : Nat, v3 = .int L ∧ L ≤ 3 := by
    simp at m3
    rcases m3 with h | h | h
    · exact ⟨1, h, by omega⟩
    · exact ⟨2, h, by omega⟩
    · exact ⟨3, h, by omega⟩
  obtain ⟨L, rfl, l1, l2⟩ := hL
  obtain ⟨sp, rfl, hs⟩ := hS
  obtain ⟨v, w', e, ⟨r, rfl, ok, cl, ln, rm⟩, g'⟩ := s_w_row (k := k) (L := L) (n := (1 + d).toNat) (sp := sp) g3 l1 (by omega) (by omega) (by omega) (by omega)
  rw [show (((1 + d).toNat : Nat) : Int) = 1 + d by omega] at e
  simp only [ex_skip, ex_seq, ex_asg, ex_asgo, ex_par, ex_aug, ex_xpr, ex_ite, ex_ret, ex_retn, ex_rai, ex_fr, ex_whl, ev_var, ev_cst, ev_glb, ev_tup, ev_lst, ev_bin, ev_neg, ev_not, ev_and, ev_or, ev_ife, ev_cmp, ev_chn, ev_call, ev_prm, ev_idx, ev_slc, ev_rev, ev_isi, ev_mkt, ev_draw, ev_comp, evA_nil, evA_cons, evP_nil, evP_cons, evO_nil, evO_cons, evI_rng, evI_enu, evI_zip, evI_it, evG_elt, evG_for, bind_bind, bind_ok, bind_exc, bind_stuck, bind_ite, opt_some, ofRW_ok, ofRW_exc, wp_ok, cmp_le, cmp_ge, cmp_lt, cmp_gt, cmp_eq, cmp_ne, cmp_eqb, cmp_isb, cmp_nisb, cmp_isn, cmp_nis, is_int_int, is_int_bl, is_int_str, is_int_tup, is_int_lst, is_int_non, is_bool_int, is_bool_bl, is_bool_str, is_bool_tup, is_bool_lst, is_bool_non, is_tuple_int, is_tuple_bl, is_tuple_str, is_tuple_tup, is_tuple_lst, is_tuple_non, is_list_int, is_list_bl, is_list_str, is_list_tup, is_list_lst, is_list_non, is_str_int, is_str_bl, is_str_str, is_str_tup, is_str_lst, is_str_non, nn_int, nn_bl, nn_str, nn_tup, nn_lst, nn_non, itY_tup, it_lst, sq_tup, sq_lst, len_own, len_beat, len_row, iter_own, iter_beat, iter_row, seq_own, seq_beat, seq_row, isi_own, isi_beat, isi_row, list_own, list_row, sorted_own, isN_row, add_int, sub_int, len_tup, len_lst, tuple_lst, tuple_tup, list_lst, list_tup, stTg, List.getElem?_cons_zero, List.getElem?_cons_succ, List.set_cons_zero, List.set_cons_succ, Option.map_some, Option.bind_some, Prim.look, List.headD_cons, List.tail_cons, slots0, List.zipIdx_cons, List.zipIdx_nil, List.map_cons, List.map_nil, List.lookup_nil, List.replicate_succ, List.replicate_zero, List.append_nil, List.nil_append, List.cons_append, unsl, backsl, List.foldl_cons, List.foldl_nil, flowD, if_true, if_false, Bool.not_true, Bool.not_false, Bool.false_eq_true, Nat.le_refl, Nat.reduceLeDiff, Nat.reduceLT, and_self, true_and, and_true, f_w_any_row, e1, e2, e3, e]
  exact ⟨⟨L, r, rfl, ok, cl, by omega, l2, fun b hb o ho => Nat.le_trans (rm b hb o ho) hs⟩, g'⟩
theorem sq_bld {L : Nat} {r : Rw'} (h : RowOk L r) : Sq r.length L r := sq_of h
theorem bld_len {o : List Th} : primD .len [bldO o] = some (.int o.length) := by unfold bldO; rw [len_lst, List.length_map]
theorem pl_bldO {n : Nat} (o : List Th) : Pl (n + 2) (bldO o) := Pl.lst (by intro x hx; obtain ⟨p, _, rfl⟩ := List.mem_map.mp hx; exact pl_th p)
theorem bldO_ne (o : List Th) : cmpD .ne (bldO o) (.lst []) = some (!o.isEmpty) := by
  show (if okEq (bldO o) && okEq (.lst []) then some (!(bldO o).eqv (.lst [])) else none) = _
  rw [(pl_bldO (n := 0) o).ok, (Pl.lst (n := 0) (xs := []) (fun _ h => nomatch h)).ok]
  cases o <;> rfl
theorem thr_put {n L : Nat} {r : Rw'} (h : Sq n L r) {t a : Nat} (ht : t < n) (ha : a < L) {o : List Th} {P : List Th → Prop} (ho : P o) (hr : ∀ t < n, ∀ a < L, P (own2 r t a)) : ∀ t' < n, ∀ a' < L, P (own2 (put2 r t a o) t' a') := fun t' ht' a' ha' => by
  rw [own_put h ht ha]
  split
  · exact ho
  · exact hr t' ht' a' ha'
/-- a row with a throw turned -/
theorem s_turned_off {k L : Nat} {r : Rw'} {w : Wd} (g : GW w) (h : RowOk L r) : ∃ v w', semT tbl (k + 2) 22 [.town, rowD r] w = .ok v [] w' ∧ (∃ r', v = rowD r' ∧ RowOk L r' ∧ r'.length = r.length) ∧ GW w' := by
  refine sem_of (P := fun v w' => (∃ r', v = rowD r' ∧ RowOk L r' ∧ r'.length = r.length) ∧ GW w') (fn := f_w_turned_off) rfl rfl ?_
  have h1 := h.n1
  have h2 := h.n2
  have h3 := h.l1
  have h4 := h.l2
  have e0 := row_at r h.n1 (x := 0) rfl
  have e1 := h.first
  have sq := sq_of h
  have hrd : (3 ≤ dep (rdOf tbl) (.comp [4] (.gfor (.v 4) (.iit (.var 1)) (.cst (.bl true)) (.gelt (.comp [3] (.gfor (.v 3) (.iit (.var 4)) (.cst (.bl true)) (.gelt (.prm .list (.cons (.var 3) .nil)))))))) ∧ 0 < 3) := by simp [dep]
  have hth : ∀ t < r.length, ∀ a < L, (own2 r t a).length ≤ 4 ∧ ∀ p ∈ own2 r t a, (1 ≤ p.1 ∧ p.1 ≤ 15) ∧ 0 ≤ p.2 ∧ p.2 < (L : Int) := fun t ht a ha => by
    have hb := getD_mem r [] ht
    have ho : own2 r t a ∈ r.getD t [] := getD_mem _ [] (by rw [h.beat ht]; exact ha)
    exact ⟨h.room _ hb _ ho, fun p hp => ⟨h.high _ hb _ ho p hp, h.goal _ hb _ ho p hp⟩⟩
  obtain ⟨d5, w5, ed5, d50, d51, g5⟩ := draw_ok (n := (r.length : Int)) g (by omega) (by omega)
  obtain ⟨d6, w6, ed6, d60, d61, g6⟩ := draw_ok (n := (L : Int)) g5 (by omega) (by omega)
  obtain ⟨d7, w7, ed7, d70, d71, g7⟩ := draw_ok (n := 3) g6 (by omega) (by omega)
  obtain ⟨d8, w8, ed8, d80, d81, g8⟩ := draw_ok (n := 9) g7 (by omega) (by omega)
  obtain ⟨d9, w9, ed9, d90, d91, g9⟩ := draw_ok (n := (L : Int)) g8 (by omega) (by omega)
  have ht : d5.toNat < r.length := by omega
  have ha : d6.toNat < L := by omega
  have hx : d5 = (d5.toNat : Int) := by omega
  have hy : d6 = (d6.toNat : Int) := by omega
  have hin := hth _ ht _ ha
  have fin : ∀ {r' : Rw'}, Sq r.length L r' → (∀ t < r.length, ∀ a < L, (own2 r' t a).length ≤ 4 ∧ ∀ p ∈ own2 r' t a, (1 ≤ p.1 ∧ p.1 ≤ 15) ∧ 0 ≤ p.2 ∧ p.2 < (L : Int)) → semT tbl (k + 1) 19 [bldD r'] w = semT tbl (k + 1) 19 [bldD r'] w → RowOk L (lined r') ∧ (lined r').length = r.length ∧ ∀ w, semT tbl (k + 1) 19 [bldD r'] w = .ok (rowD (lined r')) [] w := fun {r'} sq' hr' _ =>
    ⟨row_of sq' h1 h2 h3 h4 (fun t ht a ha => (hr' t ht a ha).1) (fun t ht a ha => (hr' t ht a ha).2), by rw [lined_len, sq'.len], fun w => s_w_lined (by rw [sq'.len]; omega) fun b hb => by
      obtain ⟨t, ht, rfl⟩ := List.getElem_of_mem hb
      have := sq'.wid t (by rw [← sq'.len]; exact ht)
      rw [getD_get _ [] ht] at this
      omega⟩
  show WP (ex _ _ (.seq _ (.seq _ (.seq _ (.seq _ _)))) _) _
  refine wp_seq (fun s => s = ⟨[.fz .town, .fz (rowD r), .ow 3 (bldD r), .un, .un, .un, .un, .un], w⟩) ?_ fun s q => ?_
  · simp only [ex_skip, ex_seq, ex_asg, ex_asgo, ex_par, ex_aug, ex_xpr, ex_ite, ex_ret, ex_retn, ex_rai, ex_fr, ex_whl, ev_var, ev_cst, ev_glb, ev_tup, ev_lst, ev_bin, ev_neg, ev_not, ev_and, ev_or, ev_ife, ev_cmp, ev_chn, ev_call, ev_prm, ev_idx, ev_slc, ev_rev, ev_isi, ev_mkt, ev_draw, ev_comp, evA_nil, evA_cons, evP_nil, evP_cons, evO_nil, evO_cons, evI_rng, evI_enu, evI_zip, evI_it, evG_elt, evG_for, bind_bind, bind_ok, bind_exc, bind_stuck, bind_ite, opt_some, ofRW_ok, ofRW_exc, wp_ok, cmp_le, cmp_ge, cmp_lt, cmp_gt, cmp_eq, cmp_ne, cmp_eqb, cmp_isb, cmp_nisb, cmp_isn, cmp_nis, is_int_int, is_int_bl, is_int_str, is_int_tup, is_int_lst, is_int_non, is_bool_int, is_bool_bl, is_bool_str, is_bool_tup, is_bool_lst, is_bool_non, is_tuple_int, is_tuple_bl, is_tuple_str, is_tuple_tup, is_tuple_lst, is_tuple_non, is_list_int, is_list_bl, is_list_str, is_list_tup, is_list_lst, is_list_non, is_str_int, is_str_bl, is_str_str, is_str_tup, is_str_lst, is_str_non, nn_int, nn_bl, nn_str, nn_tup, nn_lst, nn_non, itY_tup, it_lst, sq_tup, sq_lst, len_own, len_beat, len_row, iter_own, iter_beat, iter_row, seq_own, seq_beat, seq_row, isi_own, isi_beat, isi_row, list_own, list_row, sorted_own, isN_row, add_int, sub_int, len_tup, len_lst, tuple_lst, tuple_tup, list_lst, list_tup, stTg, List.getElem?_cons_zero, List.getElem?_cons_succ, List.set_cons_zero, List.set_cons_succ, Option.map_some, Option.bind_some, Prim.look, List.headD_cons, List.tail_cons, slots0, List.zipIdx_cons, List.zipIdx_nil, List.map_cons, List.map_nil, List.lookup_nil, List.replicate_succ, List.replicate_zero, List.append_nil, List.nil_append, List.cons_append, unsl, backsl, List.foldl_cons, List.foldl_nil, flowD, if_true, if_false, Bool.not_true, Bool.not_false, Bool.false_eq_true, Nat.le_refl, Nat.reduceLeDiff, Nat.reduceLT, and_self, true_and, and_true, hrd]
    refine wp_comp1 r beatD bldB (fun s => ∃ x, s = ⟨[.fz .town, .fz (rowD r), .un, .un, x, .un, .un, .un], w⟩) ⟨_, rfl⟩ (by unfold line; omega) (fun b hb acc s q hz => ?_) fun s q => ?_
    · obtain ⟨x, rfl⟩ := q
      simp only [ex_skip, ex_seq, ex_asg, ex_asgo, ex_par, ex_aug, ex_xpr, ex_ite, ex_ret, ex_retn, ex_rai, ex_fr, ex_whl, ev_var, ev_cst, ev_glb, ev_tup, ev_lst, ev_bin, ev_neg, ev_not, ev_and, ev_or, ev_ife, ev_cmp, ev_chn, ev_call, ev_prm, ev_idx, ev_slc, ev_rev, ev_isi, ev_mkt, ev_draw, ev_comp, evA_nil, evA_cons, evP_nil, evP_cons, evO_nil, evO_cons, evI_rng, evI_enu, evI_zip, evI_it, evG_elt, evG_for, bind_bind, bind_ok, bind_exc, bind_stuck, bind_ite, opt_some, ofRW_ok, ofRW_exc, wp_ok, cmp_le, cmp_ge, cmp_lt, cmp_gt, cmp_eq, cmp_ne, cmp_eqb, cmp_isb, cmp_nisb, cmp_isn, cmp_nis, is_int_int, is_int_bl, is_int_str, is_int_tup, is_int_lst, is_int_non, is_bool_int, is_bool_bl, is_bool_str, is_bool_tup, is_bool_lst, is_bool_non, is_tuple_int, is_tuple_bl, is_tuple_str, is_tuple_tup, is_tuple_lst, is_tuple_non, is_list_int, is_list_bl, is_list_str, is_list_tup, is_list_lst, is_list_non, is_str_int, is_str_bl, is_str_str, is_str_tup, is_str_lst, is_str_non, nn_int, nn_bl, nn_str, nn_tup, nn_lst, nn_non, itY_tup, it_lst, sq_tup, sq_lst, len_own, len_beat, len_row, iter_own, iter_beat, iter_row, seq_own, seq_beat, seq_row, isi_own, isi_beat, isi_row, list_own, list_row, sorted_own, isN_row, add_int, sub_int, len_tup, len_lst, tuple_lst, tuple_tup, list_lst, list_tup, stTg, List.getElem?_cons_zero, List.getElem?_cons_succ, List.set_cons_zero, List.set_cons_succ, Option.map_some, Option.bind_some, Prim.look, List.headD_cons, List.tail_cons, slots0, List.zipIdx_cons, List.zipIdx_nil, List.map_cons, List.map_nil, List.lookup_nil, List.replicate_succ, List.replicate_zero, List.append_nil, List.nil_append, List.cons_append, unsl, backsl, List.foldl_cons, List.foldl_nil, flowD, if_true, if_false, Bool.not_true, Bool.not_false, Bool.false_eq_true, Nat.le_refl, Nat.reduceLeDiff, Nat.reduceLT, and_self, true_and, and_true, compF]
      refine wp_comp1 b ownD bldO (fun s => ∃ y, s = ⟨[.fz .town, .fz (rowD r), .un, y, .fz (beatD b), .un, .un, .un], w⟩) ⟨_, rfl⟩ (by rw [h.wide b hb]; unfold line; omega) (fun o ho acc s q hz => ?_) fun s q => ?_
      · obtain ⟨y, rfl⟩ := q
        simp only [ex_skip, ex_seq, ex_asg, ex_asgo, ex_par, ex_aug, ex_xpr, ex_ite, ex_ret, ex_retn, ex_rai, ex_fr, ex_whl, ev_var, ev_cst, ev_glb, ev_tup, ev_lst, ev_bin, ev_neg, ev_not, ev_and, ev_or, ev_ife, ev_cmp, ev_chn, ev_call, ev_prm, ev_idx, ev_slc, ev_rev, ev_isi, ev_mkt, ev_draw, ev_comp, evA_nil, evA_cons, evP_nil, evP_cons, evO_nil, evO_cons, evI_rng, evI_enu, evI_zip, evI_it, evG_elt, evG_for, bind_bind, bind_ok, bind_exc, bind_stuck, bind_ite, opt_some, ofRW_ok, ofRW_exc, wp_ok, cmp_le, cmp_ge, cmp_lt, cmp_gt, cmp_eq, cmp_ne, cmp_eqb, cmp_isb, cmp_nisb, cmp_isn, cmp_nis, is_int_int, is_int_bl, is_int_str, is_int_tup, is_int_lst, is_int_non, is_bool_int, is_bool_bl, is_bool_str, is_bool_tup, is_bool_lst, is_bool_non, is_tuple_int, is_tuple_bl, is_tuple_str, is_tuple_tup, is_tuple_lst, is_tuple_non, is_list_int, is_list_bl, is_list_str, is_list_tup, is_list_lst, is_list_non, is_str_int, is_str_bl, is_str_str, is_str_tup, is_str_lst, is_str_non, nn_int, nn_bl, nn_str, nn_tup, nn_lst, nn_non, itY_tup, it_lst, sq_tup, sq_lst, len_own, len_beat, len_row, iter_own, iter_beat, iter_row, seq_own, seq_beat, seq_row, isi_own, isi_beat, isi_row, list_own, list_row, sorted_own, isN_row, add_int, sub_int, len_tup, len_lst, tuple_lst, tuple_tup, list_lst, list_tup, stTg, List.getElem?_cons_zero, List.getElem?_cons_succ, List.set_cons_zero, List.set_cons_succ, Option.map_some, Option.bind_some, Prim.look, List.headD_cons, List.tail_cons, slots0, List.zipIdx_cons, List.zipIdx_nil, List.map_cons, List.map_nil, List.lookup_nil, List.replicate_succ, List.replicate_zero, List.append_nil, List.nil_append, List.cons_append, unsl, backsl, List.foldl_cons, List.foldl_nil, flowD, if_true, if_false, Bool.not_true, Bool.not_false, Bool.false_eq_true, Nat.le_refl, Nat.reduceLeDiff, Nat.reduceLT, and_self, true_and, and_true, compF, hz]
        exact ⟨rfl, _, rfl⟩
      · obtain ⟨y, rfl⟩ := q
        simp only [ex_skip, ex_seq, ex_asg, ex_asgo, ex_par, ex_aug, ex_xpr, ex_ite, ex_ret, ex_retn, ex_rai, ex_fr, ex_whl, ev_var, ev_cst, ev_glb, ev_tup, ev_lst, ev_bin, ev_neg, ev_not, ev_and, ev_or, ev_ife, ev_cmp, ev_chn, ev_call, ev_prm, ev_idx, ev_slc, ev_rev, ev_isi, ev_mkt, ev_draw, ev_comp, evA_nil, evA_cons, evP_nil, evP_cons, evO_nil, evO_cons, evI_rng, evI_enu, evI_zip, evI_it, evG_elt, evG_for, bind_bind, bind_ok, bind_exc, bind_stuck, bind_ite, opt_some, ofRW_ok, ofRW_exc, wp_ok, cmp_le, cmp_ge, cmp_lt, cmp_gt, cmp_eq, cmp_ne, cmp_eqb, cmp_isb, cmp_nisb, cmp_isn, cmp_nis, is_int_int, is_int_bl, is_int_str, is_int_tup, is_int_lst, is_int_non, is_bool_int, is_bool_bl, is_bool_str, is_bool_tup, is_bool_lst, is_bool_non, is_tuple_int, is_tuple_bl, is_tuple_str, is_tuple_tup, is_tuple_lst, is_tuple_non, is_list_int, is_list_bl, is_list_str, is_list_tup, is_list_lst, is_list_non, is_str_int, is_str_bl, is_str_str, is_str_tup, is_str_lst, is_str_non, nn_int, nn_bl, nn_str, nn_tup, nn_lst, nn_non, itY_tup, it_lst, sq_tup, sq_lst, len_own, len_beat, len_row, iter_own, iter_beat, iter_row, seq_own, seq_beat, seq_row, isi_own, isi_beat, isi_row, list_own, list_row, sorted_own, isN_row, add_int, sub_int, len_tup, len_lst, tuple_lst, tuple_tup, list_lst, list_tup, stTg, List.getElem?_cons_zero, List.getElem?_cons_succ, List.set_cons_zero, List.set_cons_succ, Option.map_some, Option.bind_some, Prim.look, List.headD_cons, List.tail_cons, slots0, List.zipIdx_cons, List.zipIdx_nil, List.map_cons, List.map_nil, List.lookup_nil, List.replicate_succ, List.replicate_zero, List.append_nil, List.nil_append, List.cons_append, unsl, backsl, List.foldl_cons, List.foldl_nil, flowD, if_true, if_false, Bool.not_true, Bool.not_false, Bool.false_eq_true, Nat.le_refl, Nat.reduceLeDiff, Nat.reduceLT, and_self, true_and, and_true, hz]
        exact ⟨rfl, _, rfl⟩
    · obtain ⟨x, rfl⟩ := q
      simp only [ex_skip, ex_seq, ex_asg, ex_asgo, ex_par, ex_aug, ex_xpr, ex_ite, ex_ret, ex_retn, ex_rai, ex_fr, ex_whl, ev_var, ev_cst, ev_glb, ev_tup, ev_lst, ev_bin, ev_neg, ev_not, ev_and, ev_or, ev_ife, ev_cmp, ev_chn, ev_call, ev_prm, ev_idx, ev_slc, ev_rev, ev_isi, ev_mkt, ev_draw, ev_comp, evA_nil, evA_cons, evP_nil, evP_cons, evO_nil, evO_cons, evI_rng, evI_enu, evI_zip, evI_it, evG_elt, evG_for, bind_bind, bind_ok, bind_exc, bind_stuck, bind_ite, opt_some, ofRW_ok, ofRW_exc, wp_ok, cmp_le, cmp_ge, cmp_lt, cmp_gt, cmp_eq, cmp_ne, cmp_eqb, cmp_isb, cmp_nisb, cmp_isn, cmp_nis, is_int_int, is_int_bl, is_int_str, is_int_tup, is_int_lst, is_int_non, is_bool_int, is_bool_bl, is_bool_str, is_bool_tup, is_bool_lst, is_bool_non, is_tuple_int, is_tuple_bl, is_tuple_str, is_tuple_tup, is_tuple_lst, is_tuple_non, is_list_int, is_list_bl, is_list_str, is_list_tup, is_list_lst, is_list_non, is_str_int, is_str_bl, is_str_str, is_str_tup, is_str_lst, is_str_non, nn_int, nn_bl, nn_str, nn_tup, nn_lst, nn_non, itY_tup, it_lst, sq_tup, sq_lst, len_own, len_beat, len_row, iter_own, iter_beat, iter_row, seq_own, seq_beat, seq_row, isi_own, isi_beat, isi_row, list_own, list_row, sorted_own, isN_row, add_int, sub_int, len_tup, len_lst, tuple_lst, tuple_tup, list_lst, list_tup, stTg, List.getElem?_cons_zero, List.getElem?_cons_succ, List.set_cons_zero, List.set_cons_succ, Option.map_some, Option.bind_some, Prim.look, List.headD_cons, List.tail_cons, slots0, List.zipIdx_cons, List.zipIdx_nil, List.map_cons, List.map_nil, List.lookup_nil, List.replicate_succ, List.replicate_zero, List.append_nil, List.nil_append, List.cons_append, unsl, backsl, List.foldl_cons, List.foldl_nil, flowD, if_true, if_false, Bool.not_true, Bool.not_false, Bool.false_eq_true, Nat.le_refl, Nat.reduceLeDiff, Nat.reduceLT, and_self, true_and, and_true]
      rfl
  subst q
  refine wp_seq (fun s => s = ⟨[.fz .town, .fz (rowD r), .ow 3 (bldD r), .un, .un, .fz (.int d5), .fz (.int d6), .un], w6⟩) ?_ fun s q => ?_
  · simp only [ex_skip, ex_seq, ex_asg, ex_asgo, ex_par, ex_aug, ex_xpr, ex_ite, ex_ret, ex_retn, ex_rai, ex_fr, ex_whl, ev_var, ev_cst, ev_glb, ev_tup, ev_lst, ev_bin, ev_neg, ev_not, ev_and, ev_or, ev_ife, ev_cmp, ev_chn, ev_call, ev_prm, ev_idx, ev_slc, ev_rev, ev_isi, ev_mkt, ev_draw, ev_comp, evA_nil, evA_cons, evP_nil, evP_cons, evO_nil, evO_cons, evI_rng, evI_enu, evI_zip, evI_it, evG_elt, evG_for, bind_bind, bind_ok, bind_exc, bind_stuck, bind_ite, opt_some, ofRW_ok, ofRW_exc, wp_ok, cmp_le, cmp_ge, cmp_lt, cmp_gt, cmp_eq, cmp_ne, cmp_eqb, cmp_isb, cmp_nisb, cmp_isn, cmp_nis, is_int_int, is_int_bl, is_int_str, is_int_tup, is_int_lst, is_int_non, is_bool_int, is_bool_bl, is_bool_str, is_bool_tup, is_bool_lst, is_bool_non, is_tuple_int, is_tuple_bl, is_tuple_str, is_tuple_tup, is_tuple_lst, is_tuple_non, is_list_int, is_list_bl, is_list_str, is_list_tup, is_list_lst, is_list_non, is_str_int, is_str_bl, is_str_str, is_str_tup, is_str_lst, is_str_non, nn_int, nn_bl, nn_str, nn_tup, nn_lst, nn_non, itY_tup, it_lst, sq_tup, sq_lst, len_own, len_beat, len_row, iter_own, iter_beat, iter_row, seq_own, seq_beat, seq_row, isi_own, isi_beat, isi_row, list_own, list_row, sorted_own, isN_row, add_int, sub_int, len_tup, len_lst, tuple_lst, tuple_tup, list_lst, list_tup, stTg, List.getElem?_cons_zero, List.getElem?_cons_succ, List.set_cons_zero, List.set_cons_succ, Option.map_some, Option.bind_some, Prim.look, List.headD_cons, List.tail_cons, slots0, List.zipIdx_cons, List.zipIdx_nil, List.map_cons, List.map_nil, List.lookup_nil, List.replicate_succ, List.replicate_zero, List.append_nil, List.nil_append, List.cons_append, unsl, backsl, List.foldl_cons, List.foldl_nil, flowD, if_true, if_false, Bool.not_true, Bool.not_false, Bool.false_eq_true, Nat.le_refl, Nat.reduceLeDiff, Nat.reduceLT, and_self, true_and, and_true, ed5, e0, e1, ed6, Nat.zero_le]
  subst q
  refine wp_seq (fun s => s = ⟨[.fz .town, .fz (rowD r), .ow 3 (bldD r), .un, .un, .fz (.int d5), .fz (.int d6), .fz (.int d7)], w7⟩) ?_ fun s q => ?_
  · simp only [ex_skip, ex_seq, ex_asg, ex_asgo, ex_par, ex_aug, ex_xpr, ex_ite, ex_ret, ex_retn, ex_rai, ex_fr, ex_whl, ev_var, ev_cst, ev_glb, ev_tup, ev_lst, ev_bin, ev_neg, ev_not, ev_and, ev_or, ev_ife, ev_cmp, ev_chn, ev_call, ev_prm, ev_idx, ev_slc, ev_rev, ev_isi, ev_mkt, ev_draw, ev_comp, evA_nil, evA_cons, evP_nil, evP_cons, evO_nil, evO_cons, evI_rng, evI_enu, evI_zip, evI_it, evG_elt, evG_for, bind_bind, bind_ok, bind_exc, bind_stuck, bind_ite, opt_some, ofRW_ok, ofRW_exc, wp_ok, cmp_le, cmp_ge, cmp_lt, cmp_gt, cmp_eq, cmp_ne, cmp_eqb, cmp_isb, cmp_nisb, cmp_isn, cmp_nis, is_int_int, is_int_bl, is_int_str, is_int_tup, is_int_lst, is_int_non, is_bool_int, is_bool_bl, is_bool_str, is_bool_tup, is_bool_lst, is_bool_non, is_tuple_int, is_tuple_bl, is_tuple_str, is_tuple_tup, is_tuple_lst, is_tuple_non, is_list_int, is_list_bl, is_list_str, is_list_tup, is_list_lst, is_list_non, is_str_int, is_str_bl, is_str_str, is_str_tup, is_str_lst, is_str_non, nn_int, nn_bl, nn_str, nn_tup, nn_lst, nn_non, itY_tup, it_lst, sq_tup, sq_lst, len_own, len_beat, len_row, iter_own, iter_beat, iter_row, seq_own, seq_beat, seq_row, isi_own, isi_beat, isi_row, list_own, list_row, sorted_own, isN_row, add_int, sub_int, len_tup, len_lst, tuple_lst, tuple_tup, list_lst, list_tup, stTg, List.getElem?_cons_zero, List.getElem?_cons_succ, List.set_cons_zero, List.set_cons_succ, Option.map_some, Option.bind_some, Prim.look, List.headD_cons, List.tail_cons, slots0, List.zipIdx_cons, List.zipIdx_nil, List.map_cons, List.map_nil, List.lookup_nil, List.replicate_succ, List.replicate_zero, List.append_nil, List.nil_append, List.cons_append, unsl, backsl, List.foldl_cons, List.foldl_nil, flowD, if_true, if_false, Bool.not_true, Bool.not_false, Bool.false_eq_true, Nat.le_refl, Nat.reduceLeDiff, Nat.reduceLT, and_self, true_and, and_true, ed7]
  subst q
  have i1 := bldD_at (r := r) hx ht
  have i2 := bldB_at (b := r.getD d5.toNat []) hy (by rw [h.beat ht]; exact ha)
  refine wp_seq (fun s => ∃ r' w', s = ⟨[.fz .town, .fz (rowD r), .ow 3 (bldD r'), .un, .un, .fz (.int d5), .fz (.int d6), .fz (.int d7)], w'⟩ ∧ GW w' ∧ Sq r.length L r' ∧ (∀ t < r.length, ∀ a < L, (own2 r' t a).length ≤ 4 ∧ ∀ p ∈ own2 r' t a, (1 ≤ p.1 ∧ p.1 ≤ 15) ∧ 0 ≤ p.2 ∧ p.2 < (L : Int))) ?_ fun s q => ?_
  · simp only [ex_skip, ex_seq, ex_asg, ex_asgo, ex_par, ex_aug, ex_xpr, ex_ite, ex_ret, ex_retn, ex_rai, ex_fr, ex_whl, ev_var, ev_cst, ev_glb, ev_tup, ev_lst, ev_bin, ev_neg, ev_not, ev_and, ev_or, ev_ife, ev_cmp, ev_chn, ev_call, ev_prm, ev_idx, ev_slc, ev_rev, ev_isi, ev_mkt, ev_draw, ev_comp, evA_nil, evA_cons, evP_nil, evP_cons, evO_nil, evO_cons, evI_rng, evI_enu, evI_zip, evI_it, evG_elt, evG_for, bind_bind, bind_ok, bind_exc, bind_stuck, bind_ite, opt_some, ofRW_ok, ofRW_exc, wp_ok, cmp_le, cmp_ge, cmp_lt, cmp_gt, cmp_eq, cmp_ne, cmp_eqb, cmp_isb, cmp_nisb, cmp_isn, cmp_nis, is_int_int, is_int_bl, is_int_str, is_int_tup, is_int_lst, is_int_non, is_bool_int, is_bool_bl, is_bool_str, is_bool_tup, is_bool_lst, is_bool_non, is_tuple_int, is_tuple_bl, is_tuple_str, is_tuple_tup, is_tuple_lst, is_tuple_non, is_list_int, is_list_bl, is_list_str, is_list_tup, is_list_lst, is_list_non, is_str_int, is_str_bl, is_str_str, is_str_tup, is_str_lst, is_str_non, nn_int, nn_bl, nn_str, nn_tup, nn_lst, nn_non, itY_tup, it_lst, sq_tup, sq_lst, len_own, len_beat, len_row, iter_own, iter_beat, iter_row, seq_own, seq_beat, seq_row, isi_own, isi_beat, isi_row, list_own, list_row, sorted_own, isN_row, add_int, sub_int, len_tup, len_lst, tuple_lst, tuple_tup, list_lst, list_tup, stTg, List.getElem?_cons_zero, List.getElem?_cons_succ, List.set_cons_zero, List.set_cons_succ, Option.map_some, Option.bind_some, Prim.look, List.headD_cons, List.tail_cons, slots0, List.zipIdx_cons, List.zipIdx_nil, List.map_cons, List.map_nil, List.lookup_nil, List.replicate_succ, List.replicate_zero, List.append_nil, List.nil_append, List.cons_append, unsl, backsl, List.foldl_cons, List.foldl_nil, flowD, if_true, if_false, Bool.not_true, Bool.not_false, Bool.false_eq_true, Nat.le_refl, Nat.reduceLeDiff, Nat.reduceLT, and_self, true_and, and_true, i1, i2, bldO_ne, bld_len]
    have ev5 : ∀ w, ev (semT tbl (k + 1)) (.var 5) 0 ⟨[.fz .town, .fz (rowD r), .ow 3 (bldD r), .un, .un, .fz (.int d5), .fz (.int d6), .fz (.int d7)], w⟩ = .ok (.int d5) ⟨[.fz .town, .fz (rowD r), .ow 3 (bldD r), .un, .un, .fz (.int d5), .fz (.int d6), .fz (.int d7)], w⟩ := fun w => by simp only [ex_skip, ex_seq, ex_asg, ex_asgo, ex_par, ex_aug, ex_xpr, ex_ite, ex_ret, ex_retn, ex_rai, ex_fr, ex_whl, ev_var, ev_cst, ev_glb, ev_tup, ev_lst, ev_bin, ev_neg, ev_not, ev_and, ev_or, ev_ife, ev_cmp, ev_chn, ev_call, ev_prm, ev_idx, ev_slc, ev_rev, ev_isi, ev_mkt, ev_draw, ev_comp, evA_nil, evA_cons, evP_nil, evP_cons, evO_nil, evO_cons, evI_rng, evI_enu, evI_zip, evI_it, evG_elt, evG_for, bind_bind, bind_ok, bind_exc, bind_stuck, bind_ite, opt_some, ofRW_ok, ofRW_exc, wp_ok, cmp_le, cmp_ge, cmp_lt, cmp_gt, cmp_eq, cmp_ne, cmp_eqb, cmp_isb, cmp_nisb, cmp_isn, cmp_nis, is_int_int, is_int_bl, is_int_str, is_int_tup, is_int_lst, is_int_non, is_bool_int, is_bool_bl, is_bool_str, is_bool_tup, is_bool_lst, is_bool_non, is_tuple_int, is_tuple_bl, is_tuple_str, is_tuple_tup, is_tuple_lst, is_tuple_non, is_list_int, is_list_bl, is_list_str, is_list_tup, is_list_lst, is_list_non, is_str_int, is_str_bl, is_str_str, is_str_tup, is_str_lst, is_str_non, nn_int, nn_bl, nn_str, nn_tup, nn_lst, nn_non, itY_tup, it_lst, sq_tup, sq_lst, len_own, len_beat, len_row, iter_own, iter_beat, iter_row, seq_own, seq_beat, seq_row, isi_own, isi_beat, isi_row, list_own, list_row, sorted_own, isN_row, add_int, sub_int, len_tup, len_lst, tuple_lst, tuple_tup, list_lst, list_tup, stTg, List.getElem?_cons_zero, List.getElem?_cons_succ, List.set_cons_zero, List.set_cons_succ, Option.map_some, Option.bind_some, Prim.look, List.headD_cons, List.tail_cons, slots0, List.zipIdx_cons, List.zipIdx_nil, List.map_cons, List.map_nil, List.lookup_nil, List.replicate_succ, List.replicate_zero, List.append_nil, List.nil_append, List.cons_append, unsl, backsl, List.foldl_cons, List.foldl_nil, flowD, if_true, if_false, Bool.not_true, Bool.not_false, Bool.false_eq_true, Nat.le_refl, Nat.reduceLeDiff, Nat.reduceLT, and_self, true_and, and_true]
    have ev6 : ∀ w, ev (semT tbl (k + 1)) (.var 6) 0 ⟨[.fz .town, .fz (rowD r), .ow 3 (bldD r), .un, .un, .fz (.int d5), .fz (.int d6), .fz (.int d7)], w⟩ = .ok (.int d6) ⟨[.fz .town, .fz (rowD r), .ow 3 (bldD r), .un, .un, .fz (.int d5), .fz (.int d6), .fz (.int d7)], w⟩ := fun w => by simp only [ex_skip, ex_seq, ex_asg, ex_asgo, ex_par, ex_aug, ex_xpr, ex_ite, ex_ret, ex_retn, ex_rai, ex_fr, ex_whl, ev_var, ev_cst, ev_glb, ev_tup, ev_lst, ev_bin, ev_neg, ev_not, ev_and, ev_or, ev_ife, ev_cmp, ev_chn, ev_call, ev_prm, ev_idx, ev_slc, ev_rev, ev_isi, ev_mkt, ev_draw, ev_comp, evA_nil, evA_cons, evP_nil, evP_cons, evO_nil, evO_cons, evI_rng, evI_enu, evI_zip, evI_it, evG_elt, evG_for, bind_bind, bind_ok, bind_exc, bind_stuck, bind_ite, opt_some, ofRW_ok, ofRW_exc, wp_ok, cmp_le, cmp_ge, cmp_lt, cmp_gt, cmp_eq, cmp_ne, cmp_eqb, cmp_isb, cmp_nisb, cmp_isn, cmp_nis, is_int_int, is_int_bl, is_int_str, is_int_tup, is_int_lst, is_int_non, is_bool_int, is_bool_bl, is_bool_str, is_bool_tup, is_bool_lst, is_bool_non, is_tuple_int, is_tuple_bl, is_tuple_str, is_tuple_tup, is_tuple_lst, is_tuple_non, is_list_int, is_list_bl, is_list_str, is_list_tup, is_list_lst, is_list_non, is_str_int, is_str_bl, is_str_str, is_str_tup, is_str_lst, is_str_non, nn_int, nn_bl, nn_str, nn_tup, nn_lst, nn_non, itY_tup, it_lst, sq_tup, sq_lst, len_own, len_beat, len_row, iter_own, iter_beat, iter_row, seq_own, seq_beat, seq_row, isi_own, isi_beat, isi_row, list_own, list_row, sorted_own, isN_row, add_int, sub_int, len_tup, len_lst, tuple_lst, tuple_tup, list_lst, list_tup, stTg, List.getElem?_cons_zero, List.getElem?_cons_succ, List.set_cons_zero, List.set_cons_succ, Option.map_some, Option.bind_some, Prim.look, List.headD_cons, List.tail_cons, slots0, List.zipIdx_cons, List.zipIdx_nil, List.map_cons, List.map_nil, List.lookup_nil, List.replicate_succ, List.replicate_zero, List.append_nil, List.nil_append, List.cons_append, unsl, backsl, List.foldl_cons, List.foldl_nil, flowD, if_true, if_false, Bool.not_true, Bool.not_false, Bool.false_eq_true, Nat.le_refl, Nat.reduceLeDiff, Nat.reduceLT, and_self, true_and, and_true]
    have evE : ev (semT tbl (k + 1)) (.tup (.cons (.bin .add (.cst (.int 1)) (.draw (.var 0) (.cst (.int 9)))) (.cons (.draw (.var 0) (.prm .len (.cons (.idx (.var 1) (.cst (.int 0))) .nil))) .nil))) 0 ⟨[.fz .town, .fz (rowD r), .ow 3 (bldD r), .un, .un, .fz (.int d5), .fz (.int d6), .fz (.int d7)], w7⟩ = .ok (thD (1 + d8, d9)) ⟨[.fz .town, .fz (rowD r), .ow 3 (bldD r), .un, .un, .fz (.int d5), .fz (.int d6), .fz (.int d7)], w9⟩ := by
      simp only [ex_skip, ex_seq, ex_asg, ex_asgo, ex_par, ex_aug, ex_xpr, ex_ite, ex_ret, ex_retn, ex_rai, ex_fr, ex_whl, ev_var, ev_cst, ev_glb, ev_tup, ev_lst, ev_bin, ev_neg, ev_not, ev_and, ev_or, ev_ife, ev_cmp, ev_chn, ev_call, ev_prm, ev_idx, ev_slc, ev_rev, ev_isi, ev_mkt, ev_draw, ev_comp, evA_nil, evA_cons, evP_nil, evP_cons, evO_nil, evO_cons, evI_rng, evI_enu, evI_zip, evI_it, evG_elt, evG_for, bind_bind, bind_ok, bind_exc, bind_stuck, bind_ite, opt_some, ofRW_ok, ofRW_exc, wp_ok, cmp_le, cmp_ge, cmp_lt, cmp_gt, cmp_eq, cmp_ne, cmp_eqb, cmp_isb, cmp_nisb, cmp_isn, cmp_nis, is_int_int, is_int_bl, is_int_str, is_int_tup, is_int_lst, is_int_non, is_bool_int, is_bool_bl, is_bool_str, is_bool_tup, is_bool_lst, is_bool_non, is_tuple_int, is_tuple_bl, is_tuple_str, is_tuple_tup, is_tuple_lst, is_tuple_non, is_list_int, is_list_bl, is_list_str, is_list_tup, is_list_lst, is_list_non, is_str_int, is_str_bl, is_str_str, is_str_tup, is_str_lst, is_str_non, nn_int, nn_bl, nn_str, nn_tup, nn_lst, nn_non, itY_tup, it_lst, sq_tup, sq_lst, len_own, len_beat, len_row, iter_own, iter_beat, iter_row, seq_own, seq_beat, seq_row, isi_own, isi_beat, isi_row, list_own, list_row, sorted_own, isN_row, add_int, sub_int, len_tup, len_lst, tuple_lst, tuple_tup, list_lst, list_tup, stTg, List.getElem?_cons_zero, List.getElem?_cons_succ, List.set_cons_zero, List.set_cons_succ, Option.map_some, Option.bind_some, Prim.look, List.headD_cons, List.tail_cons, slots0, List.zipIdx_cons, List.zipIdx_nil, List.map_cons, List.map_nil, List.lookup_nil, List.replicate_succ, List.replicate_zero, List.append_nil, List.nil_append, List.cons_append, unsl, backsl, List.foldl_cons, List.foldl_nil, flowD, if_true, if_false, Bool.not_true, Bool.not_false, Bool.false_eq_true, Nat.le_refl, Nat.reduceLeDiff, Nat.reduceLT, and_self, true_and, and_true, ed8, e0, e1, ed9]; rfl
    have hz : ((1 : Int) ≤ 1 + d8 ∧ 1 + d8 ≤ 15) ∧ 0 ≤ d9 ∧ d9 < (L : Int) := ⟨⟨by omega, by omega⟩, d90, d91⟩
    have keep : ∀ {o : List Th}, (o.length ≤ 4 ∧ ∀ p ∈ o, (1 ≤ p.1 ∧ p.1 ≤ 15) ∧ 0 ≤ p.2 ∧ p.2 < (L : Int)) → ∀ t < r.length, ∀ a < L, (own2 (put2 r d5.toNat d6.toNat o) t a).length ≤ 4 ∧ ∀ p ∈ own2 (put2 r d5.toNat d6.toNat o) t a, (1 ≤ p.1 ∧ p.1 ≤ 15) ∧ 0 ≤ p.2 ∧ p.2 < (L : Int) :=
      fun {o} ho => thr_put (P := fun o => o.length ≤ 4 ∧ ∀ p ∈ o, (1 ≤ p.1 ∧ p.1 ≤ 15) ∧ 0 ≤ p.2 ∧ p.2 < (L : Int)) sq ht ha ho hth
    have ne_of : (!((r.getD d5.toNat []).getD d6.toNat []).isEmpty) = true → own2 r d5.toNat d6.toNat ≠ [] := fun q e => by
      unfold own2 at e
      rw [e] at q
      cases q
    have epop := fun q => bs_pop (sem := semT tbl (k + 1)) (rd := rdOf tbl) (i := 2) (s := ⟨[.fz .town, .fz (rowD r), .ow 3 (bldD r), .un, .un, .fz (.int d5), .fz (.int d6), .fz (.int d7)], w7⟩) rfl sq ht ha hx hy (ev5 w7) (ev6 w7) (ne_of q)
    have eset := fun q => bs_set0 (sem := semT tbl (k + 1)) (rd := rdOf tbl) (i := 2) (je := .cst (.int 0)) evE rfl sq ht ha hx hy (ev5 w9) (ev6 w9) rfl (ne_of q)
    have eapp := bs_app (sem := semT tbl (k + 1)) (rd := rdOf tbl) (i := 2) (s := ⟨[.fz .town, .fz (rowD r), .ow 3 (bldD r), .un, .un, .fz (.int d5), .fz (.int d6), .fz (.int d7)], w7⟩) rfl sq ht ha hx hy (ev5 w7) (ev6 w7) evE rfl (by unfold line; omega)
    repeat' split
    all_goals first
      | exact ⟨rfl, _, _, rfl, g7, sq, hth⟩
      | (rename_i q; rw [epop q]; exact ⟨rfl, _, _, rfl, g7, sq.put _ _ _, keep ⟨by rw [List.length_dropLast]; omega, fun p hp => hin.2 p ((List.dropLast_sublist _).subset hp)⟩⟩)
      | (rename_i q; rw [eset q]; exact ⟨rfl, _, _, rfl, g9, sq.put _ _ _, keep ⟨by rw [List.length_set]; omega, fun p hp => (List.mem_or_eq_of_mem_set hp).elim (hin.2 p) (fun e => e ▸ hz)⟩⟩)
      | (rename_i q; rw [eapp]; exact ⟨rfl, _, _, rfl, g9, sq.put _ _ _, keep ⟨by rw [decide_eq_true_eq] at q; have q2 : ((own2 r d5.toNat d6.toNat).length : Int) < 4 := q; rw [List.length_append, List.length_cons, List.length_nil]; omega, fun p hp => (List.mem_append.mp hp).elim (hin.2 p) (fun e => List.mem_singleton.mp e ▸ hz)⟩⟩)
  obtain ⟨r', w', rfl, g', sq', hr'⟩ := q
  obtain ⟨f1, f2, f3⟩ := fin sq' hr' rfl
  simp only [ex_skip, ex_seq, ex_asg, ex_asgo, ex_par, ex_aug, ex_xpr, ex_ite, ex_ret, ex_retn, ex_rai, ex_fr, ex_whl, ev_var, ev_cst, ev_glb, ev_tup, ev_lst, ev_bin, ev_neg, ev_not, ev_and, ev_or, ev_ife, ev_cmp, ev_chn, ev_call, ev_prm, ev_idx, ev_slc, ev_rev, ev_isi, ev_mkt, ev_draw, ev_comp, evA_nil, evA_cons, evP_nil, evP_cons, evO_nil, evO_cons, evI_rng, evI_enu, evI_zip, evI_it, evG_elt, evG_for, bind_bind, bind_ok, bind_exc, bind_stuck, bind_ite, opt_some, ofRW_ok, ofRW_exc, wp_ok, cmp_le, cmp_ge, cmp_lt, cmp_gt, cmp_eq, cmp_ne, cmp_eqb, cmp_isb, cmp_nisb, cmp_isn, cmp_nis, is_int_int, is_int_bl, is_int_str, is_int_tup, is_int_lst, is_int_non, is_bool_int, is_bool_bl, is_bool_str, is_bool_tup, is_bool_lst, is_bool_non, is_tuple_int, is_tuple_bl, is_tuple_str, is_tuple_tup, is_tuple_lst, is_tuple_non, is_list_int, is_list_bl, is_list_str, is_list_tup, is_list_lst, is_list_non, is_str_int, is_str_bl, is_str_str, is_str_tup, is_str_lst, is_str_non, nn_int, nn_bl, nn_str, nn_tup, nn_lst, nn_non, itY_tup, it_lst, sq_tup, sq_lst, len_own, len_beat, len_row, iter_own, iter_beat, iter_row, seq_own, seq_beat, seq_row, isi_own, isi_beat, isi_row, list_own, list_row, sorted_own, isN_row, add_int, sub_int, len_tup, len_lst, tuple_lst, tuple_tup, list_lst, list_tup, stTg, List.getElem?_cons_zero, List.getElem?_cons_succ, List.set_cons_zero, List.set_cons_succ, Option.map_some, Option.bind_some, Prim.look, List.headD_cons, List.tail_cons, slots0, List.zipIdx_cons, List.zipIdx_nil, List.map_cons, List.map_nil, List.lookup_nil, List.replicate_succ, List.replicate_zero, List.append_nil, List.nil_append, List.cons_append, unsl, backsl, List.foldl_cons, List.foldl_nil, flowD, if_true, if_false, Bool.not_true, Bool.not_false, Bool.false_eq_true, Nat.le_refl, Nat.reduceLeDiff, Nat.reduceLT, and_self, true_and, and_true, f3]
  exact ⟨⟨_, rfl, f1, f2⟩, g'⟩
theorem emod_part (n : Nat) (t : Nat) (h : Int) : (n : Int) ∣ ((t : Int) + h) - ((((t : Int) + h) % n)) := by
  refine ⟨((t : Int) + h) / n, ?_⟩
  have := Int.mul_ediv_add_emod ((t : Int) + h) n
  omega
/-- all spots of landings, as much as they count -/
def sumW (n L : Nat) (f : Nat → Nat → Nat) : Int := ((List.range n).map fun t => ((List.range L).map fun l => ((t * f t l : Nat) : Int)).sum).sum
theorem isum_congr {A : Type} {f g : A → Int} {xs : List A} (h : ∀ x ∈ xs, f x = g x) : (xs.map f).sum = (xs.map g).sum := by rw [List.map_congr_left h]
theorem isum_add {A : Type} (f g : A → Int) : ∀ xs : List A, (xs.map fun x => f x + g x).sum = (xs.map f).sum + (xs.map g).sum
  | [] => rfl
  | x :: xs => by simp only [List.map_cons, List.sum_cons]; rw [isum_add f g xs]; omega
theorem isum_zero {A : Type} (f : A → Int) (h : ∀ x, f x = 0) : ∀ xs : List A, (xs.map f).sum = 0
  | [] => rfl
  | x :: xs => by rw [List.map_cons, List.sum_cons, h x, isum_zero f h xs]; rfl
theorem isum_one {n i : Nat} (hi : i < n) (f : Nat → Int) (h : ∀ k, k ≠ i → f k = 0) : ((List.range n).map f).sum = f i := by
  induction n with
  | zero => omega
  | succ n ih =>
    rw [List.range_succ, List.map_append, List.sum_append, List.map_cons, List.map_nil, List.sum_cons, List.sum_nil]
    by_cases e : i = n
    · subst e
      have : ((List.range i).map f).sum = 0 := by
        rw [isum_congr (g := fun _ => 0) (fun x hx => h x (by have := List.mem_range.mp hx; omega))]
        exact isum_zero _ (fun _ => rfl) _
      omega
    · rw [ih (by omega), h n (fun z => e z.symm)]
      omega
/-- a sum over all that is thrown of where it lands is the sum over the spots -/
theorem sumW_hit {n L t : Nat} (hn : 0 < n) (p : Th) (hp : 0 ≤ p.2 ∧ p.2 < (L : Int)) : sumW n L (fun i l => if hit n t (i, l) p then 1 else 0) = ((t : Int) + p.1) % n := by
  unfold sumW
  have hi := toT_lt (t := t) (p := p) hn
  rw [isum_one hi]
  · rw [isum_one (i := p.2.toNat) (by omega)]
    · have : hit n t (toT n t p, p.2.toNat) p = true := by unfold hit; simp
      show ((toT n t p * (if hit n t (toT n t p, p.2.toNat) p = true then 1 else 0) : Nat) : Int) = _
      rw [this, toT_eq hn]; simp
    · intro l hl
      have : hit n t (toT n t p, l) p = false := by unfold hit; simp; omega
      show ((toT n t p * (if hit n t (toT n t p, l) p = true then 1 else 0) : Nat) : Int) = _
      rw [this]; simp
  · intro i hi
    apply isum_zero
    intro l
    have : hit n t (i, l) p = false := by unfold hit; simp; omega
    show ((i * (if hit n t (i, l) p = true then 1 else 0) : Nat) : Int) = _
    rw [this]; simp
theorem sumW_add (n L : Nat) (f g : Nat → Nat → Nat) : sumW n L (fun t l => f t l + g t l) = sumW n L f + sumW n L g := by
  unfold sumW
  rw [← isum_add]
  apply isum_congr
  intro t _
  rw [← isum_add]
  apply isum_congr
  intro l _
  rw [Nat.mul_add]; omega
theorem sumW_zero (n L : Nat) : sumW n L (fun _ _ => 0) = 0 := isum_zero _ (fun t => isum_zero _ (fun l => by simp) _) _
theorem dvd_O {n L t : Nat} (hn : 0 < n) : ∀ (o : List Th), (∀ p ∈ o, 0 ≤ p.2 ∧ p.2 < (L : Int)) → (n : Int) ∣ (heightsO o).sum + (t : Int) * (o.length : Int) - sumW n L (fun i l => cO n t (i, l) o)
  | [], _ => by
    have : sumW n L (fun i l => cO n t (i, l) []) = 0 := sumW_zero n L
    rw [this]; simp [heightsO]
  | p :: o, h => by
    have e : sumW n L (fun i l => cO n t (i, l) (p :: o)) = sumW n L (fun i l => cO n t (i, l) o) + ((t : Int) + p.1) % n := by
      rw [← sumW_hit (L := L) hn p (h p (by simp)), ← sumW_add]
      congr 1
      funext i l
      unfold cO
      rw [List.countP_cons]
    have ih := dvd_O (t := t) hn o fun x hx => h x (by simp [hx])
    have d := emod_part n t p.1
    have := Int.dvd_add ih d
    rw [e]
    have e2 : (heightsO (p :: o)).sum = p.1 + (heightsO o).sum := by simp [heightsO]
    have e3 : (t : Int) * ((p :: o).length : Int) = (t : Int) * (o.length : Int) + t := by
      rw [List.length_cons, Int.natCast_succ, Int.mul_add, Int.mul_one]
    rw [e2, e3]
    have e4 : p.1 + (heightsO o).sum + ((t : Int) * (o.length : Int) + t) - (sumW n L (fun i l => cO n t (i, l) o) + ((t : Int) + p.1) % n) =
      (heightsO o).sum + (t : Int) * (o.length : Int) - sumW n L (fun i l => cO n t (i, l) o) + ((t : Int) + p.1 - ((t : Int) + p.1) % n) := by omega
    rw [e4]
    exact this
def thrownB (b : Bt) : Int := (b.map fun o => (o.length : Int)).sum
theorem dvd_B {n L t : Nat} (hn : 0 < n) : ∀ (b : Bt), (∀ o ∈ b, ∀ p ∈ o, 0 ≤ p.2 ∧ p.2 < (L : Int)) → (n : Int) ∣ (heightsB b).sum + (t : Int) * thrownB b - sumW n L (fun i l => cB n t (i, l) b)
  | [], _ => by
    have : sumW n L (fun i l => cB n t (i, l) []) = 0 := sumW_zero n L
    rw [this]; simp [heightsB, thrownB]
  | o :: b, h => by
    have e : sumW n L (fun i l => cB n t (i, l) (o :: b)) = sumW n L (fun i l => cO n t (i, l) o) + sumW n L (fun i l => cB n t (i, l) b) := by
      rw [← sumW_add]
      congr 1
    have i1 := dvd_O (t := t) hn o (h o (by simp))
    have i2 := dvd_B (t := t) hn b fun x hx => h x (by simp [hx])
    have := Int.dvd_add i1 i2
    have e2 : (heightsB (o :: b)).sum = (heightsO o).sum + (heightsB b).sum := by simp [heightsB, List.sum_append]
    have e3 : thrownB (o :: b) = (o.length : Int) + thrownB b := by simp [thrownB]
    rw [e, e2, e3, Int.mul_add]
    have e4 : (heightsO o).sum + (heightsB b).sum + ((t : Int) * (o.length : Int) + (t : Int) * thrownB b) - (sumW n L (fun i l => cO n t (i, l) o) + sumW n L (fun i l => cB n t (i, l) b)) =
      (heightsO o).sum + (t : Int) * (o.length : Int) - sumW n L (fun i l => cO n t (i, l) o) + ((heightsB b).sum + (t : Int) * thrownB b - sumW n L (fun i l => cB n t (i, l) b)) := by omega
    rw [e4]
    exact this
theorem dvd_R {n L : Nat} (hn : 0 < n) (r : Rw') : ∀ (ts : List Nat), (∀ t ∈ ts, ∀ o ∈ r.getD t [], ∀ p ∈ o, 0 ≤ p.2 ∧ p.2 < (L : Int)) →
    (n : Int) ∣ (ts.flatMap fun t => heightsB (r.getD t [])).sum + (ts.map fun (t : Nat) => (t : Int) * thrownB (r.getD t [])).sum - sumW n L (fun i l => (ts.map fun t => cB n t (i, l) (r.getD t [])).sum)
  | [], _ => by
    have : sumW n L (fun i l => (([] : List Nat).map fun t => cB n t (i, l) (r.getD t [])).sum) = 0 := sumW_zero n L
    rw [this]; simp
  | t :: ts, h => by
    have e : sumW n L (fun i l => ((t :: ts).map fun t => cB n t (i, l) (r.getD t [])).sum) = sumW n L (fun i l => cB n t (i, l) (r.getD t [])) + sumW n L (fun i l => (ts.map fun t => cB n t (i, l) (r.getD t [])).sum) := by
      rw [← sumW_add]
      congr 1
    have i1 := dvd_B (t := t) hn (r.getD t []) (h t (by simp))
    have i2 := dvd_R hn r ts fun x hx => h x (by simp [hx])
    have := Int.dvd_add i1 i2
    rw [e, List.flatMap_cons, List.sum_append, List.map_cons, List.sum_cons]
    have e4 : ∀ a b c d e f : Int, a + b + (c + d) - (e + f) = a + c - e + (b + d - f) := by intros; omega
    rw [e4]
    exact this
theorem heights_rng (r : Rw') : heights r = (List.range r.length).flatMap fun t => heightsB (r.getD t []) := by
  unfold heights
  have : r = (List.range r.length).map fun t => r.getD t [] := by
    apply List.ext_getElem
    · simp
    · intro i h1 h2
      simp [h1]
  conv => lhs; rw [this]
  rw [List.flatMap_map]
/-- a row that fits: its heights are as many as balls for each beat -/
theorem avg {L : Nat} {r : Rw'} (h : RowOk L r) (f : clash L r = none) : (heights r).sum = ballN r * (r.length : Int) := by
  have hn := h.n1
  have hf := clash_none.mp f
  have d := dvd_R (L := L) (n := r.length) (by omega) r (List.range r.length) fun t ht => h.goal _ (getD_mem r [] (List.mem_range.mp ht))
  rw [← heights_rng] at d
  have e : ((List.range r.length).map fun (t : Nat) => (t : Int) * thrownB (r.getD t [])).sum = sumW r.length L (fun i l => cR r.length r (i, l)) := by
    unfold sumW
    apply isum_congr
    intro t ht
    have ht := List.mem_range.mp ht
    have : thrownB (r.getD t []) = ((List.range L).map fun l => (cR r.length r (t, l) : Int)).sum := by
      unfold thrownB
      have e2 : r.getD t [] = (List.range L).map fun l => own2 r t l := by
        apply List.ext_getElem
        · rw [h.beat ht]; simp
        · intro i h1 h2
          rw [List.getElem_map, List.getElem_range]
          exact (getD_get _ [] h1).symm
      conv => lhs; rw [e2]
      rw [List.map_map]
      apply isum_congr
      intro l hl
      have := hf t ht l (List.mem_range.mp hl)
      rw [at_landT (by omega) h.goal (t, l)] at this
      exact this
    rw [this]
    have mul_sum : ∀ (c : Int) (f : Nat → Int) (xs : List Nat), c * (xs.map f).sum = (xs.map fun x => c * f x).sum := fun c f xs => by
      induction xs with
      | nil => simp
      | cons x xs ih => simp only [List.map_cons, List.sum_cons]; rw [Int.mul_add, ih]
    rw [mul_sum]
    apply isum_congr
    intro l _
    rw [Int.natCast_mul]
  have e5 : (heights r).sum + ((List.range r.length).map fun (t : Nat) => (t : Int) * thrownB (r.getD t [])).sum - sumW r.length L (fun i l => cR r.length r (i, l)) = (heights r).sum := by rw [e]; omega
  have d2 : ((r.length : Nat) : Int) ∣ (heights r).sum := by rw [← e5]; exact d
  unfold ballN
  exact (Int.ediv_mul_cancel d2).symm
end Hx
namespace Hx
open PySem (Str)
theorem law_true (ns : List Int) (hl : ns.length ≤ 63) : ∃ w', semT tbl 12 26 [.scr ns] none = .ok (.bl true) [] w' := by
  have : ∃ v w', semT tbl 12 26 [.scr ns] none = .ok v [] w' ∧ v = .bl true := by
    refine sem_of (P := fun v w' => v = .bl true) (fn := f_law) rfl rfl ?_
    have g0 : GW (some (if ns = [] then [0] else ns, 0)) := ⟨_, _, rfl, by split <;> simp_all, by omega⟩
    obtain ⟨v, w1, e1, ⟨L, r, rfl, ok, cl, _, _, _⟩, g1⟩ := s_any_row (k := 8) g0
    have ob : (clD L r) = .non := by unfold clD; rw [cl]; rfl
    simp only [ex_skip, ex_seq, ex_asg, ex_asgo, ex_par, ex_aug, ex_xpr, ex_ite, ex_ret, ex_retn, ex_rai, ex_fr, ex_whl, ev_var, ev_cst, ev_glb, ev_tup, ev_lst, ev_bin, ev_neg, ev_not, ev_and, ev_or, ev_ife, ev_cmp, ev_chn, ev_call, ev_prm, ev_idx, ev_slc, ev_rev, ev_isi, ev_mkt, ev_draw, ev_comp, evA_nil, evA_cons, evP_nil, evP_cons, evO_nil, evO_cons, evI_rng, evI_enu, evI_zip, evI_it, evG_elt, evG_for, bind_bind, bind_ok, bind_exc, bind_stuck, bind_ite, opt_some, ofRW_ok, ofRW_exc, wp_ok, cmp_le, cmp_ge, cmp_lt, cmp_gt, cmp_eq, cmp_ne, cmp_eqb, cmp_isb, cmp_nisb, cmp_isn, cmp_nis, is_int_int, is_int_bl, is_int_str, is_int_tup, is_int_lst, is_int_non, is_bool_int, is_bool_bl, is_bool_str, is_bool_tup, is_bool_lst, is_bool_non, is_tuple_int, is_tuple_bl, is_tuple_str, is_tuple_tup, is_tuple_lst, is_tuple_non, is_list_int, is_list_bl, is_list_str, is_list_tup, is_list_lst, is_list_non, is_str_int, is_str_bl, is_str_str, is_str_tup, is_str_lst, is_str_non, nn_int, nn_bl, nn_str, nn_tup, nn_lst, nn_non, itY_tup, it_lst, sq_tup, sq_lst, len_own, len_beat, len_row, iter_own, iter_beat, iter_row, seq_own, seq_beat, seq_row, isi_own, isi_beat, isi_row, list_own, list_row, sorted_own, isN_row, add_int, sub_int, len_tup, len_lst, tuple_lst, tuple_tup, list_lst, list_tup, stTg, List.getElem?_cons_zero, List.getElem?_cons_succ, List.set_cons_zero, List.set_cons_succ, Option.map_some, Option.bind_some, Prim.look, List.headD_cons, List.tail_cons, slots0, List.zipIdx_cons, List.zipIdx_nil, List.map_cons, List.map_nil, List.lookup_nil, List.replicate_succ, List.replicate_zero, List.append_nil, List.nil_append, List.cons_append, unsl, backsl, List.foldl_cons, List.foldl_nil, flowD, if_true, if_false, Bool.not_true, Bool.not_false, Bool.false_eq_true, Nat.le_refl, Nat.reduceLeDiff, Nat.reduceLT, and_self, true_and, and_true, f_law, hl, e1, s_is_row (k := 7) ok, s_fits (k := 4) ok, s_first_clash (k := 5) ok, s_landings (k := 5) ok, s_w_landings (k := 10) ok, cl, ob, Option.isNone_none, BEq.rfl, cmp_ne_self (pl_tbT (n := 0) (landT L r)) (by decide), s_balls (k := 4) ok cl, s_w_balls (k := 10) ok, cmp_ne_self (Pl.int (n := 0) (i := ballN r)) (by decide), s_w_whole (k := 10)]
    rw [rng1 (n := 6) (by omega) (by omega)]
    simp only [ex_skip, ex_seq, ex_asg, ex_asgo, ex_par, ex_aug, ex_xpr, ex_ite, ex_ret, ex_retn, ex_rai, ex_fr, ex_whl, ev_var, ev_cst, ev_glb, ev_tup, ev_lst, ev_bin, ev_neg, ev_not, ev_and, ev_or, ev_ife, ev_cmp, ev_chn, ev_call, ev_prm, ev_idx, ev_slc, ev_rev, ev_isi, ev_mkt, ev_draw, ev_comp, evA_nil, evA_cons, evP_nil, evP_cons, evO_nil, evO_cons, evI_rng, evI_enu, evI_zip, evI_it, evG_elt, evG_for, bind_bind, bind_ok, bind_exc, bind_stuck, bind_ite, opt_some, ofRW_ok, ofRW_exc, wp_ok, cmp_le, cmp_ge, cmp_lt, cmp_gt, cmp_eq, cmp_ne, cmp_eqb, cmp_isb, cmp_nisb, cmp_isn, cmp_nis, is_int_int, is_int_bl, is_int_str, is_int_tup, is_int_lst, is_int_non, is_bool_int, is_bool_bl, is_bool_str, is_bool_tup, is_bool_lst, is_bool_non, is_tuple_int, is_tuple_bl, is_tuple_str, is_tuple_tup, is_tuple_lst, is_tuple_non, is_list_int, is_list_bl, is_list_str, is_list_tup, is_list_lst, is_list_non, is_str_int, is_str_bl, is_str_str, is_str_tup, is_str_lst, is_str_non, nn_int, nn_bl, nn_str, nn_tup, nn_lst, nn_non, itY_tup, it_lst, sq_tup, sq_lst, len_own, len_beat, len_row, iter_own, iter_beat, iter_row, seq_own, seq_beat, seq_row, isi_own, isi_beat, isi_row, list_own, list_row, sorted_own, isN_row, add_int, sub_int, len_tup, len_lst, tuple_lst, tuple_tup, list_lst, list_tup, stTg, List.getElem?_cons_zero, List.getElem?_cons_succ, List.set_cons_zero, List.set_cons_succ, Option.map_some, Option.bind_some, Prim.look, List.headD_cons, List.tail_cons, slots0, List.zipIdx_cons, List.zipIdx_nil, List.map_cons, List.map_nil, List.lookup_nil, List.replicate_succ, List.replicate_zero, List.append_nil, List.nil_append, List.cons_append, unsl, backsl, List.foldl_cons, List.foldl_nil, flowD, if_true, if_false, Bool.not_true, Bool.not_false, Bool.false_eq_true, Nat.le_refl, Nat.reduceLeDiff, Nat.reduceLT, and_self, true_and, and_true]
    refine wp_forB (List.range 6) (fun (j : Nat) => D.int (j : Int)) (fun _ s => ∃ a3 a4 a5 a6 a7 a8 a9 a10 a11 w, s = ⟨[.fz (.scr ns), .fz .town, .fz (rowD r), a3, a4, a5, a6, a7, a8, a9, a10, a11], w⟩ ∧ GW w) ⟨_, _, _, _, _, _, _, _, _, _, rfl, g1⟩ (fun pre t post s e q => ?_) fun s q => ?_
    · obtain ⟨a3, a4, a5, a6, a7, a8, a9, a10, a11, w, rfl, gw⟩ := q
      obtain ⟨v, w2, e2, ⟨r', rfl, ok', ln⟩, g2⟩ := s_turned_off (k := 9) gw ok
      simp only [ex_skip, ex_seq, ex_asg, ex_asgo, ex_par, ex_aug, ex_xpr, ex_ite, ex_ret, ex_retn, ex_rai, ex_fr, ex_whl, ev_var, ev_cst, ev_glb, ev_tup, ev_lst, ev_bin, ev_neg, ev_not, ev_and, ev_or, ev_ife, ev_cmp, ev_chn, ev_call, ev_prm, ev_idx, ev_slc, ev_rev, ev_isi, ev_mkt, ev_draw, ev_comp, evA_nil, evA_cons, evP_nil, evP_cons, evO_nil, evO_cons, evI_rng, evI_enu, evI_zip, evI_it, evG_elt, evG_for, bind_bind, bind_ok, bind_exc, bind_stuck, bind_ite, opt_some, ofRW_ok, ofRW_exc, wp_ok, cmp_le, cmp_ge, cmp_lt, cmp_gt, cmp_eq, cmp_ne, cmp_eqb, cmp_isb, cmp_nisb, cmp_isn, cmp_nis, is_int_int, is_int_bl, is_int_str, is_int_tup, is_int_lst, is_int_non, is_bool_int, is_bool_bl, is_bool_str, is_bool_tup, is_bool_lst, is_bool_non, is_tuple_int, is_tuple_bl, is_tuple_str, is_tuple_tup, is_tuple_lst, is_tuple_non, is_list_int, is_list_bl, is_list_str, is_list_tup, is_list_lst, is_list_non, is_str_int, is_str_bl, is_str_str, is_str_tup, is_str_lst, is_str_non, nn_int, nn_bl, nn_str, nn_tup, nn_lst, nn_non, itY_tup, it_lst, sq_tup, sq_lst, len_own, len_beat, len_row, iter_own, iter_beat, iter_row, seq_own, seq_beat, seq_row, isi_own, isi_beat, isi_row, list_own, list_row, sorted_own, isN_row, add_int, sub_int, len_tup, len_lst, tuple_lst, tuple_tup, list_lst, list_tup, stTg, List.getElem?_cons_zero, List.getElem?_cons_succ, List.set_cons_zero, List.set_cons_succ, Option.map_some, Option.bind_some, Prim.look, List.headD_cons, List.tail_cons, slots0, List.zipIdx_cons, List.zipIdx_nil, List.map_cons, List.map_nil, List.lookup_nil, List.replicate_succ, List.replicate_zero, List.append_nil, List.nil_append, List.cons_append, unsl, backsl, List.foldl_cons, List.foldl_nil, flowD, if_true, if_false, Bool.not_true, Bool.not_false, Bool.false_eq_true, Nat.le_refl, Nat.reduceLeDiff, Nat.reduceLT, and_self, true_and, and_true, loopF, e2, s_w_clash (k := 9) ok', s_first_clash (k := 5) ok', s_fits (k := 4) ok', s_landings (k := 5) ok', s_w_landings (k := 10) ok', cmp_ne_self (pl_clD (n := 0) (L := L) r') (by decide), clD_non, s_w_is (k := 10), BEq.rfl, cmp_ne_self (pl_tbT (n := 0) (landT L r')) (by decide)]
      have hr' := ok'.hr
      have hl' := lens_le ok'
      refine wp_forB r' beatD (fun pre s => ∃ a8 a9 a10 a11, s = ⟨[.fz (.scr ns), .fz .town, .fz (rowD r), .fz (.int t), .fz (rowD r'), .fz (clD L r'), .fz (.lst ((lens pre).map D.int)), .fz (.lst ((0 :: heights pre).map D.int)), a8, a9, a10, a11], w2⟩) ⟨_, _, _, _, rfl⟩ (fun pre b post s e q => ?_) fun s q => ?_
      · obtain ⟨b8, b9, b10, b11, rfl⟩ := q
        have hb : b ∈ r' := by rw [e]; simp
        have el : lens r' = lens pre ++ (b.map fun o => (o.length : Int)) ++ lens post := by rw [e]; simp [lens]
        have eh : heights r' = heights pre ++ heightsB b ++ heights post := by rw [e]; simp [heights]
        have el2 := congrArg List.length el
        have eh2 := congrArg List.length eh
        simp only [List.length_append, List.length_map] at el2 eh2
        simp only [ex_skip, ex_seq, ex_asg, ex_asgo, ex_par, ex_aug, ex_xpr, ex_ite, ex_ret, ex_retn, ex_rai, ex_fr, ex_whl, ev_var, ev_cst, ev_glb, ev_tup, ev_lst, ev_bin, ev_neg, ev_not, ev_and, ev_or, ev_ife, ev_cmp, ev_chn, ev_call, ev_prm, ev_idx, ev_slc, ev_rev, ev_isi, ev_mkt, ev_draw, ev_comp, evA_nil, evA_cons, evP_nil, evP_cons, evO_nil, evO_cons, evI_rng, evI_enu, evI_zip, evI_it, evG_elt, evG_for, bind_bind, bind_ok, bind_exc, bind_stuck, bind_ite, opt_some, ofRW_ok, ofRW_exc, wp_ok, cmp_le, cmp_ge, cmp_lt, cmp_gt, cmp_eq, cmp_ne, cmp_eqb, cmp_isb, cmp_nisb, cmp_isn, cmp_nis, is_int_int, is_int_bl, is_int_str, is_int_tup, is_int_lst, is_int_non, is_bool_int, is_bool_bl, is_bool_str, is_bool_tup, is_bool_lst, is_bool_non, is_tuple_int, is_tuple_bl, is_tuple_str, is_tuple_tup, is_tuple_lst, is_tuple_non, is_list_int, is_list_bl, is_list_str, is_list_tup, is_list_lst, is_list_non, is_str_int, is_str_bl, is_str_str, is_str_tup, is_str_lst, is_str_non, nn_int, nn_bl, nn_str, nn_tup, nn_lst, nn_non, itY_tup, it_lst, sq_tup, sq_lst, len_own, len_beat, len_row, iter_own, iter_beat, iter_row, seq_own, seq_beat, seq_row, isi_own, isi_beat, isi_row, list_own, list_row, sorted_own, isN_row, add_int, sub_int, len_tup, len_lst, tuple_lst, tuple_tup, list_lst, list_tup, stTg, List.getElem?_cons_zero, List.getElem?_cons_succ, List.set_cons_zero, List.set_cons_succ, Option.map_some, Option.bind_some, Prim.look, List.headD_cons, List.tail_cons, slots0, List.zipIdx_cons, List.zipIdx_nil, List.map_cons, List.map_nil, List.lookup_nil, List.replicate_succ, List.replicate_zero, List.append_nil, List.nil_append, List.cons_append, unsl, backsl, List.foldl_cons, List.foldl_nil, flowD, if_true, if_false, Bool.not_true, Bool.not_false, Bool.false_eq_true, Nat.le_refl, Nat.reduceLeDiff, Nat.reduceLT, and_self, true_and, and_true, loopF]
        refine wp_comp1 b ownD (fun o => .int o.length) (fun s => ∃ x, s = ⟨[.fz (.scr ns), .fz .town, .fz (rowD r), .fz (.int t), .fz (rowD r'), .fz (clD L r'), .fz (.lst ((lens pre).map D.int)), .fz (.lst ((0 :: heights pre).map D.int)), .fz (beatD b), x, b10, b11], w2⟩) ⟨_, rfl⟩ (by unfold line; omega) (fun o ho acc s q hz => ?_) fun s q => ?_
        · obtain ⟨x, rfl⟩ := q
          simp only [ex_skip, ex_seq, ex_asg, ex_asgo, ex_par, ex_aug, ex_xpr, ex_ite, ex_ret, ex_retn, ex_rai, ex_fr, ex_whl, ev_var, ev_cst, ev_glb, ev_tup, ev_lst, ev_bin, ev_neg, ev_not, ev_and, ev_or, ev_ife, ev_cmp, ev_chn, ev_call, ev_prm, ev_idx, ev_slc, ev_rev, ev_isi, ev_mkt, ev_draw, ev_comp, evA_nil, evA_cons, evP_nil, evP_cons, evO_nil, evO_cons, evI_rng, evI_enu, evI_zip, evI_it, evG_elt, evG_for, bind_bind, bind_ok, bind_exc, bind_stuck, bind_ite, opt_some, ofRW_ok, ofRW_exc, wp_ok, cmp_le, cmp_ge, cmp_lt, cmp_gt, cmp_eq, cmp_ne, cmp_eqb, cmp_isb, cmp_nisb, cmp_isn, cmp_nis, is_int_int, is_int_bl, is_int_str, is_int_tup, is_int_lst, is_int_non, is_bool_int, is_bool_bl, is_bool_str, is_bool_tup, is_bool_lst, is_bool_non, is_tuple_int, is_tuple_bl, is_tuple_str, is_tuple_tup, is_tuple_lst, is_tuple_non, is_list_int, is_list_bl, is_list_str, is_list_tup, is_list_lst, is_list_non, is_str_int, is_str_bl, is_str_str, is_str_tup, is_str_lst, is_str_non, nn_int, nn_bl, nn_str, nn_tup, nn_lst, nn_non, itY_tup, it_lst, sq_tup, sq_lst, len_own, len_beat, len_row, iter_own, iter_beat, iter_row, seq_own, seq_beat, seq_row, isi_own, isi_beat, isi_row, list_own, list_row, sorted_own, isN_row, add_int, sub_int, len_tup, len_lst, tuple_lst, tuple_tup, list_lst, list_tup, stTg, List.getElem?_cons_zero, List.getElem?_cons_succ, List.set_cons_zero, List.set_cons_succ, Option.map_some, Option.bind_some, Prim.look, List.headD_cons, List.tail_cons, slots0, List.zipIdx_cons, List.zipIdx_nil, List.map_cons, List.map_nil, List.lookup_nil, List.replicate_succ, List.replicate_zero, List.append_nil, List.nil_append, List.cons_append, unsl, backsl, List.foldl_cons, List.foldl_nil, flowD, if_true, if_false, Bool.not_true, Bool.not_false, Bool.false_eq_true, Nat.le_refl, Nat.reduceLeDiff, Nat.reduceLT, and_self, true_and, and_true, compF, hz]
          exact ⟨_, rfl⟩
        · obtain ⟨x, rfl⟩ := q
          simp only [ex_skip, ex_seq, ex_asg, ex_asgo, ex_par, ex_aug, ex_xpr, ex_ite, ex_ret, ex_retn, ex_rai, ex_fr, ex_whl, ev_var, ev_cst, ev_glb, ev_tup, ev_lst, ev_bin, ev_neg, ev_not, ev_and, ev_or, ev_ife, ev_cmp, ev_chn, ev_call, ev_prm, ev_idx, ev_slc, ev_rev, ev_isi, ev_mkt, ev_draw, ev_comp, evA_nil, evA_cons, evP_nil, evP_cons, evO_nil, evO_cons, evI_rng, evI_enu, evI_zip, evI_it, evG_elt, evG_for, bind_bind, bind_ok, bind_exc, bind_stuck, bind_ite, opt_some, ofRW_ok, ofRW_exc, wp_ok, cmp_le, cmp_ge, cmp_lt, cmp_gt, cmp_eq, cmp_ne, cmp_eqb, cmp_isb, cmp_nisb, cmp_isn, cmp_nis, is_int_int, is_int_bl, is_int_str, is_int_tup, is_int_lst, is_int_non, is_bool_int, is_bool_bl, is_bool_str, is_bool_tup, is_bool_lst, is_bool_non, is_tuple_int, is_tuple_bl, is_tuple_str, is_tuple_tup, is_tuple_lst, is_tuple_non, is_list_int, is_list_bl, is_list_str, is_list_tup, is_list_lst, is_list_non, is_str_int, is_str_bl, is_str_str, is_str_tup, is_str_lst, is_str_non, nn_int, nn_bl, nn_str, nn_tup, nn_lst, nn_non, itY_tup, it_lst, sq_tup, sq_lst, len_own, len_beat, len_row, iter_own, iter_beat, iter_row, seq_own, seq_beat, seq_row, isi_own, isi_beat, isi_row, list_own, list_row, sorted_own, isN_row, add_int, sub_int, len_tup, len_lst, tuple_lst, tuple_tup, list_lst, list_tup, stTg, List.getElem?_cons_zero, List.getElem?_cons_succ, List.set_cons_zero, List.set_cons_succ, Option.map_some, Option.bind_some, Prim.look, List.headD_cons, List.tail_cons, slots0, List.zipIdx_cons, List.zipIdx_nil, List.map_cons, List.map_nil, List.lookup_nil, List.replicate_succ, List.replicate_zero, List.append_nil, List.nil_append, List.cons_append, unsl, backsl, List.foldl_cons, List.foldl_nil, flowD, if_true, if_false, Bool.not_true, Bool.not_false, Bool.false_eq_true, Nat.le_refl, Nat.reduceLeDiff, Nat.reduceLT, and_self, true_and, and_true, cat_lst (xs := (lens pre).map D.int) (ys := b.map fun o => D.int o.length) (by simp only [List.length_map]; unfold line; omega)]
          refine wp_forM b ownD (fun pre2 s => ∃ a9 a10 a11, s = ⟨[.fz (.scr ns), .fz .town, .fz (rowD r), .fz (.int t), .fz (rowD r'), .fz (clD L r'), .fz (.lst ((lens (pre ++ [b])).map D.int)), .fz (.lst ((0 :: (heights pre ++ heightsB pre2)).map D.int)), .fz (beatD b), a9, a10, a11], w2⟩) ⟨b9, b10, b11, ?_⟩ (fun pre2 o post2 s e2 q => ?_) fun s q => ?_
          · simp [lens, heightsB, List.map_append, List.map_map, Function.comp_def]
          · obtain ⟨c9, c10, c11, rfl⟩ := q
            have ho : o ∈ b := by rw [e2]; simp
            have eb : heightsB b = heightsB pre2 ++ heightsO o ++ heightsB post2 := by rw [e2]; simp [heightsB]
            have eb2 := congrArg List.length eb
            simp only [List.length_append] at eb2
            have eo : (heightsO o).length = o.length := List.length_map ..
            simp only [ex_skip, ex_seq, ex_asg, ex_asgo, ex_par, ex_aug, ex_xpr, ex_ite, ex_ret, ex_retn, ex_rai, ex_fr, ex_whl, ev_var, ev_cst, ev_glb, ev_tup, ev_lst, ev_bin, ev_neg, ev_not, ev_and, ev_or, ev_ife, ev_cmp, ev_chn, ev_call, ev_prm, ev_idx, ev_slc, ev_rev, ev_isi, ev_mkt, ev_draw, ev_comp, evA_nil, evA_cons, evP_nil, evP_cons, evO_nil, evO_cons, evI_rng, evI_enu, evI_zip, evI_it, evG_elt, evG_for, bind_bind, bind_ok, bind_exc, bind_stuck, bind_ite, opt_some, ofRW_ok, ofRW_exc, wp_ok, cmp_le, cmp_ge, cmp_lt, cmp_gt, cmp_eq, cmp_ne, cmp_eqb, cmp_isb, cmp_nisb, cmp_isn, cmp_nis, is_int_int, is_int_bl, is_int_str, is_int_tup, is_int_lst, is_int_non, is_bool_int, is_bool_bl, is_bool_str, is_bool_tup, is_bool_lst, is_bool_non, is_tuple_int, is_tuple_bl, is_tuple_str, is_tuple_tup, is_tuple_lst, is_tuple_non, is_list_int, is_list_bl, is_list_str, is_list_tup, is_list_lst, is_list_non, is_str_int, is_str_bl, is_str_str, is_str_tup, is_str_lst, is_str_non, nn_int, nn_bl, nn_str, nn_tup, nn_lst, nn_non, itY_tup, it_lst, sq_tup, sq_lst, len_own, len_beat, len_row, iter_own, iter_beat, iter_row, seq_own, seq_beat, seq_row, isi_own, isi_beat, isi_row, list_own, list_row, sorted_own, isN_row, add_int, sub_int, len_tup, len_lst, tuple_lst, tuple_tup, list_lst, list_tup, stTg, List.getElem?_cons_zero, List.getElem?_cons_succ, List.set_cons_zero, List.set_cons_succ, Option.map_some, Option.bind_some, Prim.look, List.headD_cons, List.tail_cons, slots0, List.zipIdx_cons, List.zipIdx_nil, List.map_cons, List.map_nil, List.lookup_nil, List.replicate_succ, List.replicate_zero, List.append_nil, List.nil_append, List.cons_append, unsl, backsl, List.foldl_cons, List.foldl_nil, flowD, if_true, if_false, Bool.not_true, Bool.not_false, Bool.false_eq_true, Nat.le_refl, Nat.reduceLeDiff, Nat.reduceLT, and_self, true_and, and_true, loopF]
            refine wp_comp1 o thD (fun p => .int p.1) (fun s => ∃ x y, s = ⟨[.fz (.scr ns), .fz .town, .fz (rowD r), .fz (.int t), .fz (rowD r'), .fz (clD L r'), .fz (.lst ((lens (pre ++ [b])).map D.int)), .fz (.lst ((0 :: (heights pre ++ heightsB pre2)).map D.int)), .fz (beatD b), .fz (ownD o), x, y], w2⟩) ⟨_, _, rfl⟩ (by unfold line; omega) (fun p hp acc s q hz => ?_) fun s q => ?_
            · obtain ⟨x, y, rfl⟩ := q
              simp only [ex_skip, ex_seq, ex_asg, ex_asgo, ex_par, ex_aug, ex_xpr, ex_ite, ex_ret, ex_retn, ex_rai, ex_fr, ex_whl, ev_var, ev_cst, ev_glb, ev_tup, ev_lst, ev_bin, ev_neg, ev_not, ev_and, ev_or, ev_ife, ev_cmp, ev_chn, ev_call, ev_prm, ev_idx, ev_slc, ev_rev, ev_isi, ev_mkt, ev_draw, ev_comp, evA_nil, evA_cons, evP_nil, evP_cons, evO_nil, evO_cons, evI_rng, evI_enu, evI_zip, evI_it, evG_elt, evG_for, bind_bind, bind_ok, bind_exc, bind_stuck, bind_ite, opt_some, ofRW_ok, ofRW_exc, wp_ok, cmp_le, cmp_ge, cmp_lt, cmp_gt, cmp_eq, cmp_ne, cmp_eqb, cmp_isb, cmp_nisb, cmp_isn, cmp_nis, is_int_int, is_int_bl, is_int_str, is_int_tup, is_int_lst, is_int_non, is_bool_int, is_bool_bl, is_bool_str, is_bool_tup, is_bool_lst, is_bool_non, is_tuple_int, is_tuple_bl, is_tuple_str, is_tuple_tup, is_tuple_lst, is_tuple_non, is_list_int, is_list_bl, is_list_str, is_list_tup, is_list_lst, is_list_non, is_str_int, is_str_bl, is_str_str, is_str_tup, is_str_lst, is_str_non, nn_int, nn_bl, nn_str, nn_tup, nn_lst, nn_non, itY_tup, it_lst, sq_tup, sq_lst, len_own, len_beat, len_row, iter_own, iter_beat, iter_row, seq_own, seq_beat, seq_row, isi_own, isi_beat, isi_row, list_own, list_row, sorted_own, isN_row, add_int, sub_int, len_tup, len_lst, tuple_lst, tuple_tup, list_lst, list_tup, stTg, List.getElem?_cons_zero, List.getElem?_cons_succ, List.set_cons_zero, List.set_cons_succ, Option.map_some, Option.bind_some, Prim.look, List.headD_cons, List.tail_cons, slots0, List.zipIdx_cons, List.zipIdx_nil, List.map_cons, List.map_nil, List.lookup_nil, List.replicate_succ, List.replicate_zero, List.append_nil, List.nil_append, List.cons_append, unsl, backsl, List.foldl_cons, List.foldl_nil, flowD, if_true, if_false, Bool.not_true, Bool.not_false, Bool.false_eq_true, Nat.le_refl, Nat.reduceLeDiff, Nat.reduceLT, and_self, true_and, and_true, compF, thD, hz]
              exact ⟨_, _, rfl⟩
            · obtain ⟨x, y, rfl⟩ := q
              rw [show (o.map fun p => D.int p.1) = (heightsO o).map D.int by unfold heightsO; rw [List.map_map]; rfl]
              simp only [ex_skip, ex_seq, ex_asg, ex_asgo, ex_par, ex_aug, ex_xpr, ex_ite, ex_ret, ex_retn, ex_rai, ex_fr, ex_whl, ev_var, ev_cst, ev_glb, ev_tup, ev_lst, ev_bin, ev_neg, ev_not, ev_and, ev_or, ev_ife, ev_cmp, ev_chn, ev_call, ev_prm, ev_idx, ev_slc, ev_rev, ev_isi, ev_mkt, ev_draw, ev_comp, evA_nil, evA_cons, evP_nil, evP_cons, evO_nil, evO_cons, evI_rng, evI_enu, evI_zip, evI_it, evG_elt, evG_for, bind_bind, bind_ok, bind_exc, bind_stuck, bind_ite, opt_some, ofRW_ok, ofRW_exc, wp_ok, cmp_le, cmp_ge, cmp_lt, cmp_gt, cmp_eq, cmp_ne, cmp_eqb, cmp_isb, cmp_nisb, cmp_isn, cmp_nis, is_int_int, is_int_bl, is_int_str, is_int_tup, is_int_lst, is_int_non, is_bool_int, is_bool_bl, is_bool_str, is_bool_tup, is_bool_lst, is_bool_non, is_tuple_int, is_tuple_bl, is_tuple_str, is_tuple_tup, is_tuple_lst, is_tuple_non, is_list_int, is_list_bl, is_list_str, is_list_tup, is_list_lst, is_list_non, is_str_int, is_str_bl, is_str_str, is_str_tup, is_str_lst, is_str_non, nn_int, nn_bl, nn_str, nn_tup, nn_lst, nn_non, itY_tup, it_lst, sq_tup, sq_lst, len_own, len_beat, len_row, iter_own, iter_beat, iter_row, seq_own, seq_beat, seq_row, isi_own, isi_beat, isi_row, list_own, list_row, sorted_own, isN_row, add_int, sub_int, len_tup, len_lst, tuple_lst, tuple_tup, list_lst, list_tup, stTg, List.getElem?_cons_zero, List.getElem?_cons_succ, List.set_cons_zero, List.set_cons_succ, Option.map_some, Option.bind_some, Prim.look, List.headD_cons, List.tail_cons, slots0, List.zipIdx_cons, List.zipIdx_nil, List.map_cons, List.map_nil, List.lookup_nil, List.replicate_succ, List.replicate_zero, List.append_nil, List.nil_append, List.cons_append, unsl, backsl, List.foldl_cons, List.foldl_nil, flowD, if_true, if_false, Bool.not_true, Bool.not_false, Bool.false_eq_true, Nat.le_refl, Nat.reduceLeDiff, Nat.reduceLT, and_self, true_and, and_true]
              rw [show D.int 0 :: (heights pre ++ heightsB pre2).map D.int = (0 :: (heights pre ++ heightsB pre2)).map D.int from rfl, cat_lst (by simp only [List.length_map, List.length_cons, List.length_append]; unfold line; omega)]
              simp only [ex_skip, ex_seq, ex_asg, ex_asgo, ex_par, ex_aug, ex_xpr, ex_ite, ex_ret, ex_retn, ex_rai, ex_fr, ex_whl, ev_var, ev_cst, ev_glb, ev_tup, ev_lst, ev_bin, ev_neg, ev_not, ev_and, ev_or, ev_ife, ev_cmp, ev_chn, ev_call, ev_prm, ev_idx, ev_slc, ev_rev, ev_isi, ev_mkt, ev_draw, ev_comp, evA_nil, evA_cons, evP_nil, evP_cons, evO_nil, evO_cons, evI_rng, evI_enu, evI_zip, evI_it, evG_elt, evG_for, bind_bind, bind_ok, bind_exc, bind_stuck, bind_ite, opt_some, ofRW_ok, ofRW_exc, wp_ok, cmp_le, cmp_ge, cmp_lt, cmp_gt, cmp_eq, cmp_ne, cmp_eqb, cmp_isb, cmp_nisb, cmp_isn, cmp_nis, is_int_int, is_int_bl, is_int_str, is_int_tup, is_int_lst, is_int_non, is_bool_int, is_bool_bl, is_bool_str, is_bool_tup, is_bool_lst, is_bool_non, is_tuple_int, is_tuple_bl, is_tuple_str, is_tuple_tup, is_tuple_lst, is_tuple_non, is_list_int, is_list_bl, is_list_str, is_list_tup, is_list_lst, is_list_non, is_str_int, is_str_bl, is_str_str, is_str_tup, is_str_lst, is_str_non, nn_int, nn_bl, nn_str, nn_tup, nn_lst, nn_non, itY_tup, it_lst, sq_tup, sq_lst, len_own, len_beat, len_row, iter_own, iter_beat, iter_row, seq_own, seq_beat, seq_row, isi_own, isi_beat, isi_row, list_own, list_row, sorted_own, isN_row, add_int, sub_int, len_tup, len_lst, tuple_lst, tuple_tup, list_lst, list_tup, stTg, List.getElem?_cons_zero, List.getElem?_cons_succ, List.set_cons_zero, List.set_cons_succ, Option.map_some, Option.bind_some, Prim.look, List.headD_cons, List.tail_cons, slots0, List.zipIdx_cons, List.zipIdx_nil, List.map_cons, List.map_nil, List.lookup_nil, List.replicate_succ, List.replicate_zero, List.append_nil, List.nil_append, List.cons_append, unsl, backsl, List.foldl_cons, List.foldl_nil, flowD, if_true, if_false, Bool.not_true, Bool.not_false, Bool.false_eq_true, Nat.le_refl, Nat.reduceLeDiff, Nat.reduceLT, and_self, true_and, and_true]
              refine ⟨.fz (ownD o), c10, c11, ?_⟩
              simp [heightsB, List.map_append]
          · obtain ⟨c9, c10, c11, rfl⟩ := q
            refine ⟨.fz (beatD b), c9, c10, c11, ?_⟩
            rw [show heights (pre ++ [b]) = heights pre ++ heightsB b by simp [heights]]
            rfl
      · obtain ⟨b8, b9, b10, b11, rfl⟩ := q
        have hsum : primD .sum [.lst (D.int 0 :: (heights r').map D.int)] = some (.int (heights r').sum) := by
          rw [show D.int 0 :: (heights r').map D.int = (0 :: heights r').map D.int from rfl, sum_ints]; simp
        have hmx : primD .max [.lst (D.int 0 :: (heights r').map D.int)] = some (.int (maxL (0 :: heights r'))) := by
          rw [show D.int 0 :: (heights r').map D.int = (0 :: heights r').map D.int from rfl, max_nums (by simp)]
        simp only [ex_skip, ex_seq, ex_asg, ex_asgo, ex_par, ex_aug, ex_xpr, ex_ite, ex_ret, ex_retn, ex_rai, ex_fr, ex_whl, ev_var, ev_cst, ev_glb, ev_tup, ev_lst, ev_bin, ev_neg, ev_not, ev_and, ev_or, ev_ife, ev_cmp, ev_chn, ev_call, ev_prm, ev_idx, ev_slc, ev_rev, ev_isi, ev_mkt, ev_draw, ev_comp, evA_nil, evA_cons, evP_nil, evP_cons, evO_nil, evO_cons, evI_rng, evI_enu, evI_zip, evI_it, evG_elt, evG_for, bind_bind, bind_ok, bind_exc, bind_stuck, bind_ite, opt_some, ofRW_ok, ofRW_exc, wp_ok, cmp_le, cmp_ge, cmp_lt, cmp_gt, cmp_eq, cmp_ne, cmp_eqb, cmp_isb, cmp_nisb, cmp_isn, cmp_nis, is_int_int, is_int_bl, is_int_str, is_int_tup, is_int_lst, is_int_non, is_bool_int, is_bool_bl, is_bool_str, is_bool_tup, is_bool_lst, is_bool_non, is_tuple_int, is_tuple_bl, is_tuple_str, is_tuple_tup, is_tuple_lst, is_tuple_non, is_list_int, is_list_bl, is_list_str, is_list_tup, is_list_lst, is_list_non, is_str_int, is_str_bl, is_str_str, is_str_tup, is_str_lst, is_str_non, nn_int, nn_bl, nn_str, nn_tup, nn_lst, nn_non, itY_tup, it_lst, sq_tup, sq_lst, len_own, len_beat, len_row, iter_own, iter_beat, iter_row, seq_own, seq_beat, seq_row, isi_own, isi_beat, isi_row, list_own, list_row, sorted_own, isN_row, add_int, sub_int, len_tup, len_lst, tuple_lst, tuple_tup, list_lst, list_tup, stTg, List.getElem?_cons_zero, List.getElem?_cons_succ, List.set_cons_zero, List.set_cons_succ, Option.map_some, Option.bind_some, Prim.look, List.headD_cons, List.tail_cons, slots0, List.zipIdx_cons, List.zipIdx_nil, List.map_cons, List.map_nil, List.lookup_nil, List.replicate_succ, List.replicate_zero, List.append_nil, List.nil_append, List.cons_append, unsl, backsl, List.foldl_cons, List.foldl_nil, flowD, if_true, if_false, Bool.not_true, Bool.not_false, Bool.false_eq_true, Nat.le_refl, Nat.reduceLeDiff, Nat.reduceLT, and_self, true_and, and_true, s_room (k := 5) ok', s_highest (k := 5) ok', max_nums (lens_ne ok'), hmx, decide_true, clD_non]
        cases ec : clash L r' with
        | none =>
          have ha := avg ok' ec
          have n1 := ok'.n1
          have n2 := ok'.n2
          simp only [ex_skip, ex_seq, ex_asg, ex_asgo, ex_par, ex_aug, ex_xpr, ex_ite, ex_ret, ex_retn, ex_rai, ex_fr, ex_whl, ev_var, ev_cst, ev_glb, ev_tup, ev_lst, ev_bin, ev_neg, ev_not, ev_and, ev_or, ev_ife, ev_cmp, ev_chn, ev_call, ev_prm, ev_idx, ev_slc, ev_rev, ev_isi, ev_mkt, ev_draw, ev_comp, evA_nil, evA_cons, evP_nil, evP_cons, evO_nil, evO_cons, evI_rng, evI_enu, evI_zip, evI_it, evG_elt, evG_for, bind_bind, bind_ok, bind_exc, bind_stuck, bind_ite, opt_some, ofRW_ok, ofRW_exc, wp_ok, cmp_le, cmp_ge, cmp_lt, cmp_gt, cmp_eq, cmp_ne, cmp_eqb, cmp_isb, cmp_nisb, cmp_isn, cmp_nis, is_int_int, is_int_bl, is_int_str, is_int_tup, is_int_lst, is_int_non, is_bool_int, is_bool_bl, is_bool_str, is_bool_tup, is_bool_lst, is_bool_non, is_tuple_int, is_tuple_bl, is_tuple_str, is_tuple_tup, is_tuple_lst, is_tuple_non, is_list_int, is_list_bl, is_list_str, is_list_tup, is_list_lst, is_list_non, is_str_int, is_str_bl, is_str_str, is_str_tup, is_str_lst, is_str_non, nn_int, nn_bl, nn_str, nn_tup, nn_lst, nn_non, itY_tup, it_lst, sq_tup, sq_lst, len_own, len_beat, len_row, iter_own, iter_beat, iter_row, seq_own, seq_beat, seq_row, isi_own, isi_beat, isi_row, list_own, list_row, sorted_own, isN_row, add_int, sub_int, len_tup, len_lst, tuple_lst, tuple_tup, list_lst, list_tup, stTg, List.getElem?_cons_zero, List.getElem?_cons_succ, List.set_cons_zero, List.set_cons_succ, Option.map_some, Option.bind_some, Prim.look, List.headD_cons, List.tail_cons, slots0, List.zipIdx_cons, List.zipIdx_nil, List.map_cons, List.map_nil, List.lookup_nil, List.replicate_succ, List.replicate_zero, List.append_nil, List.nil_append, List.cons_append, unsl, backsl, List.foldl_cons, List.foldl_nil, flowD, if_true, if_false, Bool.not_true, Bool.not_false, Bool.false_eq_true, Nat.le_refl, Nat.reduceLeDiff, Nat.reduceLT, and_self, true_and, and_true, Option.isNone_none, s_balls (k := 4) ok' ec, mul_int (a := ballN r') (b := (r'.length : Int)) (.inr (small_of (by omega) (by omega))), hsum, ← ha, decide_true]
          exact ⟨_, _, _, _, _, _, _, _, _, _, rfl, g2⟩
        | some p =>
          simp only [ex_skip, ex_seq, ex_asg, ex_asgo, ex_par, ex_aug, ex_xpr, ex_ite, ex_ret, ex_retn, ex_rai, ex_fr, ex_whl, ev_var, ev_cst, ev_glb, ev_tup, ev_lst, ev_bin, ev_neg, ev_not, ev_and, ev_or, ev_ife, ev_cmp, ev_chn, ev_call, ev_prm, ev_idx, ev_slc, ev_rev, ev_isi, ev_mkt, ev_draw, ev_comp, evA_nil, evA_cons, evP_nil, evP_cons, evO_nil, evO_cons, evI_rng, evI_enu, evI_zip, evI_it, evG_elt, evG_for, bind_bind, bind_ok, bind_exc, bind_stuck, bind_ite, opt_some, ofRW_ok, ofRW_exc, wp_ok, cmp_le, cmp_ge, cmp_lt, cmp_gt, cmp_eq, cmp_ne, cmp_eqb, cmp_isb, cmp_nisb, cmp_isn, cmp_nis, is_int_int, is_int_bl, is_int_str, is_int_tup, is_int_lst, is_int_non, is_bool_int, is_bool_bl, is_bool_str, is_bool_tup, is_bool_lst, is_bool_non, is_tuple_int, is_tuple_bl, is_tuple_str, is_tuple_tup, is_tuple_lst, is_tuple_non, is_list_int, is_list_bl, is_list_str, is_list_tup, is_list_lst, is_list_non, is_str_int, is_str_bl, is_str_str, is_str_tup, is_str_lst, is_str_non, nn_int, nn_bl, nn_str, nn_tup, nn_lst, nn_non, itY_tup, it_lst, sq_tup, sq_lst, len_own, len_beat, len_row, iter_own, iter_beat, iter_row, seq_own, seq_beat, seq_row, isi_own, isi_beat, isi_row, list_own, list_row, sorted_own, isN_row, add_int, sub_int, len_tup, len_lst, tuple_lst, tuple_tup, list_lst, list_tup, stTg, List.getElem?_cons_zero, List.getElem?_cons_succ, List.set_cons_zero, List.set_cons_succ, Option.map_some, Option.bind_some, Prim.look, List.headD_cons, List.tail_cons, slots0, List.zipIdx_cons, List.zipIdx_nil, List.map_cons, List.map_nil, List.lookup_nil, List.replicate_succ, List.replicate_zero, List.append_nil, List.nil_append, List.cons_append, unsl, backsl, List.foldl_cons, List.foldl_nil, flowD, if_true, if_false, Bool.not_true, Bool.not_false, Bool.false_eq_true, Nat.le_refl, Nat.reduceLeDiff, Nat.reduceLT, and_self, true_and, and_true, Option.isNone_some]
          exact ⟨_, _, _, _, _, _, _, _, _, _, rfl, g2⟩
    · obtain ⟨a3, a4, a5, a6, a7, a8, a9, a10, a11, w, rfl, gw⟩ := q
      simp only [ex_skip, ex_seq, ex_asg, ex_asgo, ex_par, ex_aug, ex_xpr, ex_ite, ex_ret, ex_retn, ex_rai, ex_fr, ex_whl, ev_var, ev_cst, ev_glb, ev_tup, ev_lst, ev_bin, ev_neg, ev_not, ev_and, ev_or, ev_ife, ev_cmp, ev_chn, ev_call, ev_prm, ev_idx, ev_slc, ev_rev, ev_isi, ev_mkt, ev_draw, ev_comp, evA_nil, evA_cons, evP_nil, evP_cons, evO_nil, evO_cons, evI_rng, evI_enu, evI_zip, evI_it, evG_elt, evG_for, bind_bind, bind_ok, bind_exc, bind_stuck, bind_ite, opt_some, ofRW_ok, ofRW_exc, wp_ok, cmp_le, cmp_ge, cmp_lt, cmp_gt, cmp_eq, cmp_ne, cmp_eqb, cmp_isb, cmp_nisb, cmp_isn, cmp_nis, is_int_int, is_int_bl, is_int_str, is_int_tup, is_int_lst, is_int_non, is_bool_int, is_bool_bl, is_bool_str, is_bool_tup, is_bool_lst, is_bool_non, is_tuple_int, is_tuple_bl, is_tuple_str, is_tuple_tup, is_tuple_lst, is_tuple_non, is_list_int, is_list_bl, is_list_str, is_list_tup, is_list_lst, is_list_non, is_str_int, is_str_bl, is_str_str, is_str_tup, is_str_lst, is_str_non, nn_int, nn_bl, nn_str, nn_tup, nn_lst, nn_non, itY_tup, it_lst, sq_tup, sq_lst, len_own, len_beat, len_row, iter_own, iter_beat, iter_row, seq_own, seq_beat, seq_row, isi_own, isi_beat, isi_row, list_own, list_row, sorted_own, isN_row, add_int, sub_int, len_tup, len_lst, tuple_lst, tuple_tup, list_lst, list_tup, stTg, List.getElem?_cons_zero, List.getElem?_cons_succ, List.set_cons_zero, List.set_cons_succ, Option.map_some, Option.bind_some, Prim.look, List.headD_cons, List.tail_cons, slots0, List.zipIdx_cons, List.zipIdx_nil, List.map_cons, List.map_nil, List.lookup_nil, List.replicate_succ, List.replicate_zero, List.append_nil, List.nil_append, List.cons_append, unsl, backsl, List.foldl_cons, List.foldl_nil, flowD, if_true, if_false, Bool.not_true, Bool.not_false, Bool.false_eq_true, Nat.le_refl, Nat.reduceLeDiff, Nat.reduceLT, and_self, true_and, and_true, s_is_row_no (k := 9), BEq.rfl]
  obtain ⟨v, w', e, rfl⟩ := this
  exact ⟨w', e⟩
end Hx
namespace HxK
open PySem PySem.Spec PyProof.Rows L2 Hx
abbrev R : PySem.W.OpenRow := PySem.W.OpenLaw.row PySem.Challenge.rw_handsarc_k01_whole_fits
def top (i : Nat) : Stmt := PySem.Challenge.pw_handsarc_k01_whole_fits.main.body.getD i (.Pass ⟨0, 0, 0, 0⟩)
def inCls : Stmt → Nat → Stmt
  | .ClassDef _ _ _ b _ _ _ _ _ _ _, j => b.getD j (.Pass ⟨0, 0, 0, 0⟩)
  | _, _ => .Pass ⟨0, 0, 0, 0⟩
def glb : List (Str × D) := [("MOST_LINES", (.int 6)), ("MOST_BEATS", (.int 24)), ("MOST_HIGH", (.int 15)), ("MOST_ROOM", (.int 4))]
def fns : List (Str × Nat × Nat) := [("is_whole", 0, 3), ("is_throw", 1, 2), ("is_beat", 2, 2), ("lines_of", 3, 1), ("is_row", 4, 1), ("look_row", 5, 1), ("landings", 6, 1), ("landed", 7, 1), ("first_clash", 8, 1), ("clash_in", 9, 1), ("fits", 10, 1), ("look_fits", 11, 1), ("balls", 12, 1), ("ball_count", 13, 1), ("room", 14, 1), ("highest", 15, 1), ("_law_pick", 16, 2), ("_law_whole", 17, 1), ("_law_is", 18, 2), ("_law_lined", 19, 1), ("_law_row", 20, 4), ("_law_any_row", 21, 1), ("_law_turned_off", 22, 2), ("_law_landings", 23, 1), ("_law_clash", 24, 1), ("_law_balls", 25, 1), ("law", 26, 1)]
def bl : List Str := [("len" : Str), ("tuple" : Str), ("list" : Str), ("sorted" : Str), ("all" : Str), ("sum" : Str), ("max" : Str), ("int" : Str), ("bool" : Str), ("isinstance" : Str), ("range" : Str), ("enumerate" : Str)]
def exs : List Str := ["BadRow", "Clash"]
def celOf (sc : Scope) : List Str := sc.names.filterMap fun y => if y.2 = .cell then some y.1 else none
def cfg (N : List Str) (st : Stmt) : Cfg := ⟨N, defScope st, celOf (defScope st), glb, fns, bl, true⟩
theorem ck_is_whole : (chkS (cfg ["thing", "low", "high"] (top 4)) exs (rdOf tbl) f_is_whole.rd f_is_whole.body).b (defBody (top 4)) = true := by decide +kernel
theorem sc_is_whole : FnScope ["thing", "low", "high"] ["thing", "low", "high"] (defScope (top 4)) := ⟨rfl, rfl, rfl, by decide +kernel, rfl, by decide +kernel, by decide +kernel⟩
theorem ck_is_throw : (chkS (cfg ["thing", "lines"] (top 10)) exs (rdOf tbl) f_is_throw.rd f_is_throw.body).b (defBody (top 10)) = true := by decide +kernel
theorem sc_is_throw : FnScope ["thing", "lines"] ["thing", "lines"] (defScope (top 10)) := ⟨rfl, rfl, rfl, by decide +kernel, rfl, by decide +kernel, by decide +kernel⟩
theorem ck_is_beat : (chkS (cfg ["thing", "lines", "own", "one"] (top 11)) exs (rdOf tbl) f_is_beat.rd f_is_beat.body).b (defBody (top 11)) = true := by decide +kernel
theorem sc_is_beat : FnScope ["thing", "lines", "own", "one"] ["thing", "lines"] (defScope (top 11)) := ⟨rfl, rfl, rfl, by decide +kernel, rfl, by decide +kernel, by decide +kernel⟩
theorem ck_lines_of : (chkS (cfg ["thing"] (top 12)) exs (rdOf tbl) f_lines_of.rd f_lines_of.body).b (defBody (top 12)) = true := by decide +kernel
theorem sc_lines_of : FnScope ["thing"] ["thing"] (defScope (top 12)) := ⟨rfl, rfl, rfl, by decide +kernel, rfl, by decide +kernel, by decide +kernel⟩
theorem ck_is_row : (chkS (cfg ["thing", "lines", "one"] (top 13)) exs (rdOf tbl) f_is_row.rd f_is_row.body).b (defBody (top 13)) = true := by decide +kernel
theorem sc_is_row : FnScope ["thing", "lines", "one"] ["thing"] (defScope (top 13)) := ⟨rfl, rfl, rfl, by decide +kernel, rfl, by decide +kernel, by decide +kernel⟩
theorem ck_look_row : (chkS (cfg ["thing"] (top 14)) exs (rdOf tbl) f_look_row.rd f_look_row.body).b (defBody (top 14)) = true := by decide +kernel
theorem sc_look_row : FnScope ["thing"] ["thing"] (defScope (top 14)) := ⟨rfl, rfl, rfl, by decide +kernel, rfl, by decide +kernel, by decide +kernel⟩
theorem ck_landings : (chkS (cfg ["row"] (top 15)) exs (rdOf tbl) f_landings.rd f_landings.body).b (defBody (top 15)) = true := by decide +kernel
theorem sc_landings : FnScope ["row"] ["row"] (defScope (top 15)) := ⟨rfl, rfl, rfl, by decide +kernel, rfl, by decide +kernel, by decide +kernel⟩
theorem ck_landed : (chkS (cfg ["row", "found", "beat", "t", "own", "high", "line", "one"] (top 16)) exs (rdOf tbl) f_landed.rd f_landed.body).b (defBody (top 16)) = true := by decide +kernel
theorem sc_landed : FnScope ["row", "found", "beat", "t", "own", "high", "line", "one"] ["row"] (defScope (top 16)) := ⟨rfl, rfl, rfl, by decide +kernel, rfl, by decide +kernel, by decide +kernel⟩
theorem ck_first_clash : (chkS (cfg ["row"] (top 17)) exs (rdOf tbl) f_first_clash.rd f_first_clash.body).b (defBody (top 17)) = true := by decide +kernel
theorem sc_first_clash : FnScope ["row"] ["row"] (defScope (top 17)) := ⟨rfl, rfl, rfl, by decide +kernel, rfl, by decide +kernel, by decide +kernel⟩
theorem ck_clash_in : (chkS (cfg ["row", "there", "t", "beat", "line", "own"] (top 18)) exs (rdOf tbl) f_clash_in.rd f_clash_in.body).b (defBody (top 18)) = true := by decide +kernel
theorem sc_clash_in : FnScope ["row", "there", "t", "beat", "line", "own"] ["row"] (defScope (top 18)) := ⟨rfl, rfl, rfl, by decide +kernel, rfl, by decide +kernel, by decide +kernel⟩
theorem ck_fits : (chkS (cfg ["row"] (top 19)) exs (rdOf tbl) f_fits.rd f_fits.body).b (defBody (top 19)) = true := by decide +kernel
theorem sc_fits : FnScope ["row"] ["row"] (defScope (top 19)) := ⟨rfl, rfl, rfl, by decide +kernel, rfl, by decide +kernel, by decide +kernel⟩
theorem ck_look_fits : (chkS (cfg ["row", "found"] (top 20)) exs (rdOf tbl) f_look_fits.rd f_look_fits.body).b (defBody (top 20)) = true := by decide +kernel
theorem sc_look_fits : FnScope ["row", "found"] ["row"] (defScope (top 20)) := ⟨rfl, rfl, rfl, by decide +kernel, rfl, by decide +kernel, by decide +kernel⟩
theorem ck_balls : (chkS (cfg ["row"] (top 21)) exs (rdOf tbl) f_balls.rd f_balls.body).b (defBody (top 21)) = true := by decide +kernel
theorem sc_balls : FnScope ["row"] ["row"] (defScope (top 21)) := ⟨rfl, rfl, rfl, by decide +kernel, rfl, by decide +kernel, by decide +kernel⟩
theorem ck_ball_count : (chkS (cfg ["row", "beat", "own", "high", "line"] (top 22)) exs (rdOf tbl) f_ball_count.rd f_ball_count.body).b (defBody (top 22)) = true := by decide +kernel
theorem sc_ball_count : FnScope ["row", "beat", "own", "high", "line"] ["row"] (defScope (top 22)) := ⟨rfl, rfl, rfl, by decide +kernel, rfl, by decide +kernel, by decide +kernel⟩
theorem ck_room : (chkS (cfg ["row", "beat", "own"] (top 23)) exs (rdOf tbl) f_room.rd f_room.body).b (defBody (top 23)) = true := by decide +kernel
theorem sc_room : FnScope ["row", "beat", "own"] ["row"] (defScope (top 23)) := ⟨rfl, rfl, rfl, by decide +kernel, rfl, by decide +kernel, by decide +kernel⟩
theorem ck_highest : (chkS (cfg ["row", "beat", "own", "high", "line"] (top 24)) exs (rdOf tbl) f_highest.rd f_highest.body).b (defBody (top 24)) = true := by decide +kernel
theorem sc_highest : FnScope ["row", "beat", "own", "high", "line"] ["row"] (defScope (top 24)) := ⟨rfl, rfl, rfl, by decide +kernel, rfl, by decide +kernel, by decide +kernel⟩
theorem ck__law_pick : (chkS (cfg ["_law_town_here", "_law_some"] (top 28)) exs (rdOf tbl) f_w_pick.rd f_w_pick.body).b (defBody (top 28)) = true := by decide +kernel
theorem sc__law_pick : FnScope ["_law_town_here", "_law_some"] ["_law_town_here", "_law_some"] (defScope (top 28)) := ⟨rfl, rfl, rfl, by decide +kernel, rfl, by decide +kernel, by decide +kernel⟩
theorem ck__law_whole : (chkS (cfg ["_law_thing"] (top 29)) exs (rdOf tbl) f_w_whole.rd f_w_whole.body).b (defBody (top 29)) = true := by decide +kernel
theorem sc__law_whole : FnScope ["_law_thing"] ["_law_thing"] (defScope (top 29)) := ⟨rfl, rfl, rfl, by decide +kernel, rfl, by decide +kernel, by decide +kernel⟩
theorem ck__law_is : (chkS (cfg ["_law_told", "_law_due"] (top 30)) exs (rdOf tbl) f_w_is.rd f_w_is.body).b (defBody (top 30)) = true := by decide +kernel
theorem sc__law_is : FnScope ["_law_told", "_law_due"] ["_law_told", "_law_due"] (defScope (top 30)) := ⟨rfl, rfl, rfl, by decide +kernel, rfl, by decide +kernel, by decide +kernel⟩
theorem ck__law_lined : (chkS (cfg ["_law_beats", "_law_found", "_law_beat", "_law_own"] (top 31)) exs (rdOf tbl) f_w_lined.rd f_w_lined.body).b (defBody (top 31)) = true := by decide +kernel
theorem sc__law_lined : FnScope ["_law_beats", "_law_found", "_law_beat", "_law_own"] ["_law_beats"] (defScope (top 31)) := ⟨rfl, rfl, rfl, by decide +kernel, rfl, by decide +kernel, by decide +kernel⟩
theorem ck__law_row : (chkS (cfg ["_law_town_here", "_law_width", "_law_size", "_law_space", "_law_spots", "_law_t", "_law_at", "_law_goals", "_law_beats", "_law_to", "_law_goal", "_law_tall"] (top 32)) exs (rdOf tbl) f_w_row.rd f_w_row.body).b (defBody (top 32)) = true := by decide +kernel
theorem sc__law_row : FnScope ["_law_town_here", "_law_width", "_law_size", "_law_space", "_law_spots", "_law_t", "_law_at", "_law_goals", "_law_beats", "_law_to", "_law_goal", "_law_tall"] ["_law_town_here", "_law_width", "_law_size", "_law_space"] (defScope (top 32)) := ⟨rfl, rfl, rfl, by decide +kernel, rfl, by decide +kernel, by decide +kernel⟩
theorem ck__law_any_row : (chkS (cfg ["_law_town_here"] (top 33)) exs (rdOf tbl) f_w_any_row.rd f_w_any_row.body).b (defBody (top 33)) = true := by decide +kernel
theorem sc__law_any_row : FnScope ["_law_town_here"] ["_law_town_here"] (defScope (top 33)) := ⟨rfl, rfl, rfl, by decide +kernel, rfl, by decide +kernel, by decide +kernel⟩
theorem ck__law_turned_off : (chkS (cfg ["_law_town_here", "_law_row_here", "_law_beats", "_law_own", "_law_beat", "_law_t", "_law_at", "_law_way_of"] (top 34)) exs (rdOf tbl) f_w_turned_off.rd f_w_turned_off.body).b (defBody (top 34)) = true := by decide +kernel
theorem sc__law_turned_off : FnScope ["_law_town_here", "_law_row_here", "_law_beats", "_law_own", "_law_beat", "_law_t", "_law_at", "_law_way_of"] ["_law_town_here", "_law_row_here"] (defScope (top 34)) := ⟨rfl, rfl, rfl, by decide +kernel, rfl, by decide +kernel, by decide +kernel⟩
theorem ck__law_landings : (chkS (cfg ["_law_row_here", "_law_found", "_law_t", "_law_own", "_law_tall", "_law_goal", "_law_to", "_law_one"] (top 35)) exs (rdOf tbl) f_w_landings.rd f_w_landings.body).b (defBody (top 35)) = true := by decide +kernel
theorem sc__law_landings : FnScope ["_law_row_here", "_law_found", "_law_t", "_law_own", "_law_tall", "_law_goal", "_law_to", "_law_one"] ["_law_row_here"] (defScope (top 35)) := ⟨rfl, rfl, rfl, by decide +kernel, rfl, by decide +kernel, by decide +kernel⟩
theorem ck__law_clash : (chkS (cfg ["_law_row_here", "_law_there", "_law_t", "_law_at"] (top 36)) exs (rdOf tbl) f_w_clash.rd f_w_clash.body).b (defBody (top 36)) = true := by decide +kernel
theorem sc__law_clash : FnScope ["_law_row_here", "_law_there", "_law_t", "_law_at"] ["_law_row_here"] (defScope (top 36)) := ⟨rfl, rfl, rfl, by decide +kernel, rfl, by decide +kernel, by decide +kernel⟩
theorem ck__law_balls : (chkS (cfg ["_law_row_here", "_law_total", "_law_beat", "_law_own", "_law_tall", "_law_goal"] (top 37)) exs (rdOf tbl) f_w_balls.rd f_w_balls.body).b (defBody (top 37)) = true := by decide +kernel
theorem sc__law_balls : FnScope ["_law_row_here", "_law_total", "_law_beat", "_law_own", "_law_tall", "_law_goal"] ["_law_row_here"] (defScope (top 37)) := ⟨rfl, rfl, rfl, by decide +kernel, rfl, by decide +kernel, by decide +kernel⟩
theorem ck_law : (chkS (cfg ["_law_script", "_law_town_here", "_law_row_here", "_law_turn_of", "_law_other", "_law_due", "_law_lots", "_law_highs", "_law_beat", "_law_own", "_law_tall", "_law_goal"] (top 38)) exs (rdOf tbl) f_law.rd f_law.body).b (defBody (top 38)) = true := by decide +kernel
theorem sc_law : FnScope ["_law_script", "_law_town_here", "_law_row_here", "_law_turn_of", "_law_other", "_law_due", "_law_lots", "_law_highs", "_law_beat", "_law_own", "_law_tall", "_law_goal"] ["_law_script"] (defScope (top 38)) := ⟨rfl, rfl, rfl, by decide +kernel, rfl, by decide +kernel, by decide +kernel⟩
def dd_is_whole : He.DefD := ⟨("is_whole", none), "is_whole", "is_whole", defArgs (top 4), defBody (top 4), defScope (top 4), [], []⟩
def dd_is_throw : He.DefD := ⟨("is_throw", none), "is_throw", "is_throw", defArgs (top 10), defBody (top 10), defScope (top 10), [], []⟩
def dd_is_beat : He.DefD := ⟨("is_beat", none), "is_beat", "is_beat", defArgs (top 11), defBody (top 11), defScope (top 11), [], []⟩
def dd_lines_of : He.DefD := ⟨("lines_of", none), "lines_of", "lines_of", defArgs (top 12), defBody (top 12), defScope (top 12), [], []⟩
def dd_is_row : He.DefD := ⟨("is_row", none), "is_row", "is_row", defArgs (top 13), defBody (top 13), defScope (top 13), [], []⟩
def dd_look_row : He.DefD := ⟨("look_row", none), "look_row", "look_row", defArgs (top 14), defBody (top 14), defScope (top 14), [], []⟩
def dd_landings : He.DefD := ⟨("landings", none), "landings", "landings", defArgs (top 15), defBody (top 15), defScope (top 15), [], []⟩
def dd_landed : He.DefD := ⟨("landed", none), "landed", "landed", defArgs (top 16), defBody (top 16), defScope (top 16), [], []⟩
def dd_first_clash : He.DefD := ⟨("first_clash", none), "first_clash", "first_clash", defArgs (top 17), defBody (top 17), defScope (top 17), [], []⟩
def dd_clash_in : He.DefD := ⟨("clash_in", none), "clash_in", "clash_in", defArgs (top 18), defBody (top 18), defScope (top 18), [], []⟩
def dd_fits : He.DefD := ⟨("fits", none), "fits", "fits", defArgs (top 19), defBody (top 19), defScope (top 19), [], []⟩
def dd_look_fits : He.DefD := ⟨("look_fits", none), "look_fits", "look_fits", defArgs (top 20), defBody (top 20), defScope (top 20), [], []⟩
def dd_balls : He.DefD := ⟨("balls", none), "balls", "balls", defArgs (top 21), defBody (top 21), defScope (top 21), [], []⟩
def dd_ball_count : He.DefD := ⟨("ball_count", none), "ball_count", "ball_count", defArgs (top 22), defBody (top 22), defScope (top 22), [], []⟩
def dd_room : He.DefD := ⟨("room", none), "room", "room", defArgs (top 23), defBody (top 23), defScope (top 23), [], []⟩
def dd_highest : He.DefD := ⟨("highest", none), "highest", "highest", defArgs (top 24), defBody (top 24), defScope (top 24), [], []⟩
def dd__law_pick : He.DefD := ⟨("_law_pick", none), "_law_pick", "_law_pick", defArgs (top 28), defBody (top 28), defScope (top 28), [], []⟩
def dd__law_whole : He.DefD := ⟨("_law_whole", none), "_law_whole", "_law_whole", defArgs (top 29), defBody (top 29), defScope (top 29), [], []⟩
def dd__law_is : He.DefD := ⟨("_law_is", none), "_law_is", "_law_is", defArgs (top 30), defBody (top 30), defScope (top 30), [], []⟩
def dd__law_lined : He.DefD := ⟨("_law_lined", none), "_law_lined", "_law_lined", defArgs (top 31), defBody (top 31), defScope (top 31), [], []⟩
def dd__law_row : He.DefD := ⟨("_law_row", none), "_law_row", "_law_row", defArgs (top 32), defBody (top 32), defScope (top 32), [], []⟩
def dd__law_any_row : He.DefD := ⟨("_law_any_row", none), "_law_any_row", "_law_any_row", defArgs (top 33), defBody (top 33), defScope (top 33), [], []⟩
def dd__law_turned_off : He.DefD := ⟨("_law_turned_off", none), "_law_turned_off", "_law_turned_off", defArgs (top 34), defBody (top 34), defScope (top 34), [], []⟩
def dd__law_landings : He.DefD := ⟨("_law_landings", none), "_law_landings", "_law_landings", defArgs (top 35), defBody (top 35), defScope (top 35), [], []⟩
def dd__law_clash : He.DefD := ⟨("_law_clash", none), "_law_clash", "_law_clash", defArgs (top 36), defBody (top 36), defScope (top 36), [], []⟩
def dd__law_balls : He.DefD := ⟨("_law_balls", none), "_law_balls", "_law_balls", defArgs (top 37), defBody (top 37), defScope (top 37), [], []⟩
def dd_law : He.DefD := ⟨("law", none), "law", "law", defArgs (top 38), defBody (top 38), defScope (top 38), [], []⟩
def dd__law_draw : He.DefD := ⟨("_law_draw", none), "_law_draw", "_law_draw", defArgs (top 27), defBody (top 27), defScope (top 27), [], []⟩
def dd__law_town : He.DefD := ⟨("_law_town", none), "_law_town", "_law_town", defArgs (top 26), defBody (top 26), defScope (top 26), [], []⟩
def dd_Clash_init : He.DefD := ⟨("Clash", some "__init__"), "__init__", "Clash.__init__", defArgs (inCls (top 3) 0), defBody (inCls (top 3) 0), defScope (inCls (top 3) 0), [], []⟩
def fn : List He.DefD := [dd_is_whole, dd_is_throw, dd_is_beat, dd_lines_of, dd_is_row, dd_look_row, dd_landings, dd_landed, dd_first_clash, dd_clash_in, dd_fits, dd_look_fits, dd_balls, dd_ball_count, dd_room, dd_highest, dd__law_pick, dd__law_whole, dd__law_is, dd__law_lined, dd__law_row, dd__law_any_row, dd__law_turned_off, dd__law_landings, dd__law_clash, dd__law_balls, dd_law, dd__law_draw, dd__law_town, dd_Clash_init]
def fa : List He.Fa := [.glo "is_whole", .glo "is_throw", .glo "is_beat", .glo "lines_of", .glo "is_row", .glo "look_row", .glo "landings", .glo "landed", .glo "first_clash", .glo "clash_in", .glo "fits", .glo "look_fits", .glo "balls", .glo "ball_count", .glo "room", .glo "highest", .glo "_law_pick", .glo "_law_whole", .glo "_law_is", .glo "_law_lined", .glo "_law_row", .glo "_law_any_row", .glo "_law_turned_off", .glo "_law_landings", .glo "_law_clash", .glo "_law_balls", .glo "law", .glo "_law_draw", .glo "_law_town", .glo "BadRow", .glo "Clash", .exc "BadRow", .free "len", .free "tuple", .free "list", .free "sorted", .free "all", .free "sum", .free "max", .free "int", .free "bool", .free "isinstance", .free "range", .free "enumerate", .int "MOST_LINES" 6, .int "MOST_BEATS" 24, .int "MOST_HIGH" 15, .int "MOST_ROOM" 4]
abbrev hk : PySem.W.Hook := hookX 5 fa fn ["Clash"]
def ob (s : PySem.W.SharedT) : He.AlD := obsXG 5 fa fn ["Clash"] (HandSHeadRun.getT s)
theorem ob_eq (s : PySem.W.SharedT) : ob s = hk.obs s.abs := obsXG_eq (HandSHeadRun.getT_eq s)
def loose : List Str := [("ArcError" : Str), ("BadRow" : Str), ("Clash" : Str), ("is_whole" : Str), ("MOST_LINES" : Str), ("MOST_BEATS" : Str), ("MOST_HIGH" : Str), ("MOST_ROOM" : Str), ("is_throw" : Str), ("is_beat" : Str), ("lines_of" : Str), ("is_row" : Str), ("look_row" : Str), ("landings" : Str), ("landed" : Str), ("first_clash" : Str), ("clash_in" : Str), ("fits" : Str), ("look_fits" : Str), ("balls" : Str), ("ball_count" : Str), ("room" : Str), ("highest" : Str), ("_law_town" : Str), ("_law_draw" : Str), ("_law_pick" : Str), ("_law_whole" : Str), ("_law_is" : Str), ("_law_lined" : Str), ("_law_row" : Str), ("_law_any_row" : Str), ("_law_turned_off" : Str), ("_law_landings" : Str), ("_law_clash" : Str), ("_law_balls" : Str)]
theorem run (w : World) : HandSHeadRun.RunEq R (PySem.W.view R.prog [38]) hk ob 4000 loose w := by
  intro os
  kernel_rfl
section
variable {P : Program} {w : World} {K : PySem.W.Frag} {h : Heap} {mg : Str → Option Value} (X : K.In h) (G : h.Ns mainGlobals mg) (c : SaysX fa fn ["Clash"] K)
include X G c
theorem ok_is_whole : DefOk K mg tbl glb fns bl exs true "is_whole" 0 3 := by
  obtain ⟨fd, F⟩ := c.d.def_ 0 (d := dd_is_whole) rfl
  exact ⟨_, fd, _, ⟨"is_whole", top 4, ["thing", "low", "high"], celOf (defScope (top 4)), f_is_whole, fun_of F, sc_is_whole, He.glo_ok X G (c.d.fact 0 rfl), FunD.bindsN F (fun _ _ _ _ _ _ us hl => match us, hl with | [_, _, _], _ => rfl), rfl, rfl, rfl, rfl, rfl, by decide, ck_is_whole⟩⟩
theorem ok_is_throw : DefOk K mg tbl glb fns bl exs true "is_throw" 1 2 := by
  obtain ⟨fd, F⟩ := c.d.def_ 1 (d := dd_is_throw) rfl
  exact ⟨_, fd, _, ⟨"is_throw", top 10, ["thing", "lines"], celOf (defScope (top 10)), f_is_throw, fun_of F, sc_is_throw, He.glo_ok X G (c.d.fact 1 rfl), FunD.bindsN F (fun _ _ _ _ _ _ us hl => match us, hl with | [_, _], _ => rfl), rfl, rfl, rfl, rfl, rfl, by decide, ck_is_throw⟩⟩
theorem ok_is_beat : DefOk K mg tbl glb fns bl exs true "is_beat" 2 2 := by
  obtain ⟨fd, F⟩ := c.d.def_ 2 (d := dd_is_beat) rfl
  exact ⟨_, fd, _, ⟨"is_beat", top 11, ["thing", "lines", "own", "one"], celOf (defScope (top 11)), f_is_beat, fun_of F, sc_is_beat, He.glo_ok X G (c.d.fact 2 rfl), FunD.bindsN F (fun _ _ _ _ _ _ us hl => match us, hl with | [_, _], _ => rfl), rfl, rfl, rfl, rfl, rfl, by decide, ck_is_beat⟩⟩
theorem ok_lines_of : DefOk K mg tbl glb fns bl exs true "lines_of" 3 1 := by
  obtain ⟨fd, F⟩ := c.d.def_ 3 (d := dd_lines_of) rfl
  exact ⟨_, fd, _, ⟨"lines_of", top 12, ["thing"], celOf (defScope (top 12)), f_lines_of, fun_of F, sc_lines_of, He.glo_ok X G (c.d.fact 3 rfl), FunD.bindsN F (fun _ _ _ _ _ _ us hl => match us, hl with | [_], _ => rfl), rfl, rfl, rfl, rfl, rfl, by decide, ck_lines_of⟩⟩
theorem ok_is_row : DefOk K mg tbl glb fns bl exs true "is_row" 4 1 := by
  obtain ⟨fd, F⟩ := c.d.def_ 4 (d := dd_is_row) rfl
  exact ⟨_, fd, _, ⟨"is_row", top 13, ["thing", "lines", "one"], celOf (defScope (top 13)), f_is_row, fun_of F, sc_is_row, He.glo_ok X G (c.d.fact 4 rfl), FunD.bindsN F (fun _ _ _ _ _ _ us hl => match us, hl with | [_], _ => rfl), rfl, rfl, rfl, rfl, rfl, by decide, ck_is_row⟩⟩
theorem ok_look_row : DefOk K mg tbl glb fns bl exs true "look_row" 5 1 := by
  obtain ⟨fd, F⟩ := c.d.def_ 5 (d := dd_look_row) rfl
  exact ⟨_, fd, _, ⟨"look_row", top 14, ["thing"], celOf (defScope (top 14)), f_look_row, fun_of F, sc_look_row, He.glo_ok X G (c.d.fact 5 rfl), FunD.bindsN F (fun _ _ _ _ _ _ us hl => match us, hl with | [_], _ => rfl), rfl, rfl, rfl, rfl, rfl, by decide, ck_look_row⟩⟩
theorem ok_landings : DefOk K mg tbl glb fns bl exs true "landings" 6 1 := by
  obtain ⟨fd, F⟩ := c.d.def_ 6 (d := dd_landings) rfl
  exact ⟨_, fd, _, ⟨"landings", top 15, ["row"], celOf (defScope (top 15)), f_landings, fun_of F, sc_landings, He.glo_ok X G (c.d.fact 6 rfl), FunD.bindsN F (fun _ _ _ _ _ _ us hl => match us, hl with | [_], _ => rfl), rfl, rfl, rfl, rfl, rfl, by decide, ck_landings⟩⟩
theorem ok_landed : DefOk K mg tbl glb fns bl exs true "landed" 7 1 := by
  obtain ⟨fd, F⟩ := c.d.def_ 7 (d := dd_landed) rfl
  exact ⟨_, fd, _, ⟨"landed", top 16, ["row", "found", "beat", "t", "own", "high", "line", "one"], celOf (defScope (top 16)), f_landed, fun_of F, sc_landed, He.glo_ok X G (c.d.fact 7 rfl), FunD.bindsN F (fun _ _ _ _ _ _ us hl => match us, hl with | [_], _ => rfl), rfl, rfl, rfl, rfl, rfl, by decide, ck_landed⟩⟩
theorem ok_first_clash : DefOk K mg tbl glb fns bl exs true "first_clash" 8 1 := by
  obtain ⟨fd, F⟩ := c.d.def_ 8 (d := dd_first_clash) rfl
  exact ⟨_, fd, _, ⟨"first_clash", top 17, ["row"], celOf (defScope (top 17)), f_first_clash, fun_of F, sc_first_clash, He.glo_ok X G (c.d.fact 8 rfl), FunD.bindsN F (fun _ _ _ _ _ _ us hl => match us, hl with | [_], _ => rfl), rfl, rfl, rfl, rfl, rfl, by decide, ck_first_clash⟩⟩
theorem ok_clash_in : DefOk K mg tbl glb fns bl exs true "clash_in" 9 1 := by
  obtain ⟨fd, F⟩ := c.d.def_ 9 (d := dd_clash_in) rfl
  exact ⟨_, fd, _, ⟨"clash_in", top 18, ["row", "there", "t", "beat", "line", "own"], celOf (defScope (top 18)), f_clash_in, fun_of F, sc_clash_in, He.glo_ok X G (c.d.fact 9 rfl), FunD.bindsN F (fun _ _ _ _ _ _ us hl => match us, hl with | [_], _ => rfl), rfl, rfl, rfl, rfl, rfl, by decide, ck_clash_in⟩⟩
theorem ok_fits : DefOk K mg tbl glb fns bl exs true "fits" 10 1 := by
  obtain ⟨fd, F⟩ := c.d.def_ 10 (d := dd_fits) rfl
  exact ⟨_, fd, _, ⟨"fits", top 19, ["row"], celOf (defScope (top 19)), f_fits, fun_of F, sc_fits, He.glo_ok X G (c.d.fact 10 rfl), FunD.bindsN F (fun _ _ _ _ _ _ us hl => match us, hl with | [_], _ => rfl), rfl, rfl, rfl, rfl, rfl, by decide, ck_fits⟩⟩
theorem ok_look_fits : DefOk K mg tbl glb fns bl exs true "look_fits" 11 1 := by
  obtain ⟨fd, F⟩ := c.d.def_ 11 (d := dd_look_fits) rfl
  exact ⟨_, fd, _, ⟨"look_fits", top 20, ["row", "found"], celOf (defScope (top 20)), f_look_fits, fun_of F, sc_look_fits, He.glo_ok X G (c.d.fact 11 rfl), FunD.bindsN F (fun _ _ _ _ _ _ us hl => match us, hl with | [_], _ => rfl), rfl, rfl, rfl, rfl, rfl, by decide, ck_look_fits⟩⟩
theorem ok_balls : DefOk K mg tbl glb fns bl exs true "balls" 12 1 := by
  obtain ⟨fd, F⟩ := c.d.def_ 12 (d := dd_balls) rfl
  exact ⟨_, fd, _, ⟨"balls", top 21, ["row"], celOf (defScope (top 21)), f_balls, fun_of F, sc_balls, He.glo_ok X G (c.d.fact 12 rfl), FunD.bindsN F (fun _ _ _ _ _ _ us hl => match us, hl with | [_], _ => rfl), rfl, rfl, rfl, rfl, rfl, by decide, ck_balls⟩⟩
theorem ok_ball_count : DefOk K mg tbl glb fns bl exs true "ball_count" 13 1 := by
  obtain ⟨fd, F⟩ := c.d.def_ 13 (d := dd_ball_count) rfl
  exact ⟨_, fd, _, ⟨"ball_count", top 22, ["row", "beat", "own", "high", "line"], celOf (defScope (top 22)), f_ball_count, fun_of F, sc_ball_count, He.glo_ok X G (c.d.fact 13 rfl), FunD.bindsN F (fun _ _ _ _ _ _ us hl => match us, hl with | [_], _ => rfl), rfl, rfl, rfl, rfl, rfl, by decide, ck_ball_count⟩⟩
theorem ok_room : DefOk K mg tbl glb fns bl exs true "room" 14 1 := by
  obtain ⟨fd, F⟩ := c.d.def_ 14 (d := dd_room) rfl
  exact ⟨_, fd, _, ⟨"room", top 23, ["row", "beat", "own"], celOf (defScope (top 23)), f_room, fun_of F, sc_room, He.glo_ok X G (c.d.fact 14 rfl), FunD.bindsN F (fun _ _ _ _ _ _ us hl => match us, hl with | [_], _ => rfl), rfl, rfl, rfl, rfl, rfl, by decide, ck_room⟩⟩
theorem ok_highest : DefOk K mg tbl glb fns bl exs true "highest" 15 1 := by
  obtain ⟨fd, F⟩ := c.d.def_ 15 (d := dd_highest) rfl
  exact ⟨_, fd, _, ⟨"highest", top 24, ["row", "beat", "own", "high", "line"], celOf (defScope (top 24)), f_highest, fun_of F, sc_highest, He.glo_ok X G (c.d.fact 15 rfl), FunD.bindsN F (fun _ _ _ _ _ _ us hl => match us, hl with | [_], _ => rfl), rfl, rfl, rfl, rfl, rfl, by decide, ck_highest⟩⟩
theorem ok__law_pick : DefOk K mg tbl glb fns bl exs true "_law_pick" 16 2 := by
  obtain ⟨fd, F⟩ := c.d.def_ 16 (d := dd__law_pick) rfl
  exact ⟨_, fd, _, ⟨"_law_pick", top 28, ["_law_town_here", "_law_some"], celOf (defScope (top 28)), f_w_pick, fun_of F, sc__law_pick, He.glo_ok X G (c.d.fact 16 rfl), FunD.bindsN F (fun _ _ _ _ _ _ us hl => match us, hl with | [_, _], _ => rfl), rfl, rfl, rfl, rfl, rfl, by decide, ck__law_pick⟩⟩
theorem ok__law_whole : DefOk K mg tbl glb fns bl exs true "_law_whole" 17 1 := by
  obtain ⟨fd, F⟩ := c.d.def_ 17 (d := dd__law_whole) rfl
  exact ⟨_, fd, _, ⟨"_law_whole", top 29, ["_law_thing"], celOf (defScope (top 29)), f_w_whole, fun_of F, sc__law_whole, He.glo_ok X G (c.d.fact 17 rfl), FunD.bindsN F (fun _ _ _ _ _ _ us hl => match us, hl with | [_], _ => rfl), rfl, rfl, rfl, rfl, rfl, by decide, ck__law_whole⟩⟩
theorem ok__law_is : DefOk K mg tbl glb fns bl exs true "_law_is" 18 2 := by
  obtain ⟨fd, F⟩ := c.d.def_ 18 (d := dd__law_is) rfl
  exact ⟨_, fd, _, ⟨"_law_is", top 30, ["_law_told", "_law_due"], celOf (defScope (top 30)), f_w_is, fun_of F, sc__law_is, He.glo_ok X G (c.d.fact 18 rfl), FunD.bindsN F (fun _ _ _ _ _ _ us hl => match us, hl with | [_, _], _ => rfl), rfl, rfl, rfl, rfl, rfl, by decide, ck__law_is⟩⟩
theorem ok__law_lined : DefOk K mg tbl glb fns bl exs true "_law_lined" 19 1 := by
  obtain ⟨fd, F⟩ := c.d.def_ 19 (d := dd__law_lined) rfl
  exact ⟨_, fd, _, ⟨"_law_lined", top 31, ["_law_beats", "_law_found", "_law_beat", "_law_own"], celOf (defScope (top 31)), f_w_lined, fun_of F, sc__law_lined, He.glo_ok X G (c.d.fact 19 rfl), FunD.bindsN F (fun _ _ _ _ _ _ us hl => match us, hl with | [_], _ => rfl), rfl, rfl, rfl, rfl, rfl, by decide, ck__law_lined⟩⟩
theorem ok__law_row : DefOk K mg tbl glb fns bl exs true "_law_row" 20 4 := by
  obtain ⟨fd, F⟩ := c.d.def_ 20 (d := dd__law_row) rfl
  exact ⟨_, fd, _, ⟨"_law_row", top 32, ["_law_town_here", "_law_width", "_law_size", "_law_space", "_law_spots", "_law_t", "_law_at", "_law_goals", "_law_beats", "_law_to", "_law_goal", "_law_tall"], celOf (defScope (top 32)), f_w_row, fun_of F, sc__law_row, He.glo_ok X G (c.d.fact 20 rfl), FunD.bindsN F (fun _ _ _ _ _ _ us hl => match us, hl with | [_, _, _, _], _ => rfl), rfl, rfl, rfl, rfl, rfl, by decide, ck__law_row⟩⟩
theorem ok__law_any_row : DefOk K mg tbl glb fns bl exs true "_law_any_row" 21 1 := by
  obtain ⟨fd, F⟩ := c.d.def_ 21 (d := dd__law_any_row) rfl
  exact ⟨_, fd, _, ⟨"_law_any_row", top 33, ["_law_town_here"], celOf (defScope (top 33)), f_w_any_row, fun_of F, sc__law_any_row, He.glo_ok X G (c.d.fact 21 rfl), FunD.bindsN F (fun _ _ _ _ _ _ us hl => match us, hl with | [_], _ => rfl), rfl, rfl, rfl, rfl, rfl, by decide, ck__law_any_row⟩⟩
theorem ok__law_turned_off : DefOk K mg tbl glb fns bl exs true "_law_turned_off" 22 2 := by
  obtain ⟨fd, F⟩ := c.d.def_ 22 (d := dd__law_turned_off) rfl
  exact ⟨_, fd, _, ⟨"_law_turned_off", top 34, ["_law_town_here", "_law_row_here", "_law_beats", "_law_own", "_law_beat", "_law_t", "_law_at", "_law_way_of"], celOf (defScope (top 34)), f_w_turned_off, fun_of F, sc__law_turned_off, He.glo_ok X G (c.d.fact 22 rfl), FunD.bindsN F (fun _ _ _ _ _ _ us hl => match us, hl with | [_, _], _ => rfl), rfl, rfl, rfl, rfl, rfl, by decide, ck__law_turned_off⟩⟩
theorem ok__law_landings : DefOk K mg tbl glb fns bl exs true "_law_landings" 23 1 := by
  obtain ⟨fd, F⟩ := c.d.def_ 23 (d := dd__law_landings) rfl
  exact ⟨_, fd, _, ⟨"_law_landings", top 35, ["_law_row_here", "_law_found", "_law_t", "_law_own", "_law_tall", "_law_goal", "_law_to", "_law_one"], celOf (defScope (top 35)), f_w_landings, fun_of F, sc__law_landings, He.glo_ok X G (c.d.fact 23 rfl), FunD.bindsN F (fun _ _ _ _ _ _ us hl => match us, hl with | [_], _ => rfl), rfl, rfl, rfl, rfl, rfl, by decide, ck__law_landings⟩⟩
theorem ok__law_clash : DefOk K mg tbl glb fns bl exs true "_law_clash" 24 1 := by
  obtain ⟨fd, F⟩ := c.d.def_ 24 (d := dd__law_clash) rfl
  exact ⟨_, fd, _, ⟨"_law_clash", top 36, ["_law_row_here", "_law_there", "_law_t", "_law_at"], celOf (defScope (top 36)), f_w_clash, fun_of F, sc__law_clash, He.glo_ok X G (c.d.fact 24 rfl), FunD.bindsN F (fun _ _ _ _ _ _ us hl => match us, hl with | [_], _ => rfl), rfl, rfl, rfl, rfl, rfl, by decide, ck__law_clash⟩⟩
theorem ok__law_balls : DefOk K mg tbl glb fns bl exs true "_law_balls" 25 1 := by
  obtain ⟨fd, F⟩ := c.d.def_ 25 (d := dd__law_balls) rfl
  exact ⟨_, fd, _, ⟨"_law_balls", top 37, ["_law_row_here", "_law_total", "_law_beat", "_law_own", "_law_tall", "_law_goal"], celOf (defScope (top 37)), f_w_balls, fun_of F, sc__law_balls, He.glo_ok X G (c.d.fact 25 rfl), FunD.bindsN F (fun _ _ _ _ _ _ us hl => match us, hl with | [_], _ => rfl), rfl, rfl, rfl, rfl, rfl, by decide, ck__law_balls⟩⟩
theorem ok_law : DefOk K mg tbl glb fns bl exs true "law" 26 1 := by
  obtain ⟨fd, F⟩ := c.d.def_ 26 (d := dd_law) rfl
  exact ⟨_, fd, _, ⟨"law", top 38, ["_law_script", "_law_town_here", "_law_row_here", "_law_turn_of", "_law_other", "_law_due", "_law_lots", "_law_highs", "_law_beat", "_law_own", "_law_tall", "_law_goal"], celOf (defScope (top 38)), f_law, fun_of F, sc_law, He.glo_ok X G (c.d.fact 26 rfl), FunD.bindsN F (fun _ _ _ _ _ _ us hl => match us, hl with | [_], _ => rfl), rfl, rfl, rfl, rfl, rfl, by decide, ck_law⟩⟩
theorem defs_ok : ∀ x i ar, fns.lookup x = some (i, ar) → DefOk K mg tbl glb fns bl exs true x i ar := by
  intro x i ar hx
  have hx := lookup_mem hx
  revert hx
  have h : ∀ p ∈ fns, DefOk K mg tbl glb fns bl exs true p.1 p.2.1 p.2.2 := all_cons (ok_is_whole X G c) ( all_cons (ok_is_throw X G c) ( all_cons (ok_is_beat X G c) ( all_cons (ok_lines_of X G c) ( all_cons (ok_is_row X G c) ( all_cons (ok_look_row X G c) ( all_cons (ok_landings X G c) ( all_cons (ok_landed X G c) ( all_cons (ok_first_clash X G c) ( all_cons (ok_clash_in X G c) ( all_cons (ok_fits X G c) ( all_cons (ok_look_fits X G c) ( all_cons (ok_balls X G c) ( all_cons (ok_ball_count X G c) ( all_cons (ok_room X G c) ( all_cons (ok_highest X G c) ( all_cons (ok__law_pick X G c) ( all_cons (ok__law_whole X G c) ( all_cons (ok__law_is X G c) ( all_cons (ok__law_lined X G c) ( all_cons (ok__law_row X G c) ( all_cons (ok__law_any_row X G c) ( all_cons (ok__law_turned_off X G c) ( all_cons (ok__law_landings X G c) ( all_cons (ok__law_clash X G c) ( all_cons (ok__law_balls X G c) ( all_cons (ok_law X G c) ( all_nil)))))))))))))))))))))))))))
  exact h (x, i, ar)
theorem draw_here {base : Heap} : Helper P w K mg base "_law_draw" spDraw := by
  obtain ⟨fd, F⟩ := c.d.def_ 27 (d := dd__law_draw) rfl
  exact ⟨_, fd, _, ok_draw (fun_of (st := top 27) F) ⟨rfl, rfl, rfl, by decide +kernel, rfl, by decide +kernel, by decide +kernel⟩ (by decide +kernel) (by decide +kernel) (He.free_ok X G (c.d.fact 32 rfl)) (fun X a b c d => pss_draw a b c d), He.glo_ok X G (c.d.fact 27 rfl), F.kp, FunD.bindsN F (fun _ _ _ _ _ _ us hl => match us, hl with | [_, _], _ => rfl)⟩
theorem town_here {base : Heap} : Helper P w K mg base "_law_town" (spTown K) := by
  obtain ⟨fd, F⟩ := c.d.def_ 28 (d := dd__law_town) rfl
  exact ⟨_, fd, _, ok_town (fun_of (st := top 26) F) ⟨rfl, rfl, rfl, by decide +kernel, rfl, by decide +kernel, by decide +kernel⟩ (by decide +kernel) (by decide +kernel) (He.free_ok X G (c.d.fact 34 rfl)) (fun X a b c d e => pss_town a b c d e), He.glo_ok X G (c.d.fact 28 rfl), F.kp, FunD.bindsN F (fun _ _ _ _ _ _ us hl => match us, hl with | [_], _ => rfl)⟩
theorem exc_BadRow {base : Heap} : ExcHere P w K mg base (He.ga K) "BadRow" := exc_here rfl (He.glo_ok X G (c.d.fact 29 rfl)) (c.d.fact 31 rfl) rfl
theorem exc_Clash {base : Heap} : ExcHere P w K mg base (He.ga K) "Clash" := by
  obtain ⟨fd, F⟩ := c.d.def_ 29 (d := dd_Clash_init) rfl
  exact exf_here rfl (He.glo_ok X G (c.d.fact 30 rfl)) (c.x _ (.head _)) rfl rfl (ok_init (fun_of (st := inCls (top 3) 0) F) ⟨rfl, rfl, rfl, by decide +kernel, rfl, by decide +kernel, by decide +kernel⟩ (by decide +kernel) fun X a b => pss_init a b) (FunD.bindsN F (fun _ _ _ _ _ _ us hl => match us, hl with | [_, _, _], _ => rfl))
theorem lawc {base : Heap} : LawC P w K mg base (He.ga K) glb bl exs := by
  refine ⟨fun x d hx => ?_, fun x hx => ?_, fun x hx => ?_⟩
  · have h : ∀ p ∈ glb, ∃ u v, mg p.1 = some u ∧ gV p.2 = some v ∧ RelV v u := all_cons (by obtain ⟨t, e⟩ := He.int_ok X G (c.d.fact 44 rfl); exact ⟨_, _, e, rfl, t, rfl⟩) ( all_cons (by obtain ⟨t, e⟩ := He.int_ok X G (c.d.fact 45 rfl); exact ⟨_, _, e, rfl, t, rfl⟩) ( all_cons (by obtain ⟨t, e⟩ := He.int_ok X G (c.d.fact 46 rfl); exact ⟨_, _, e, rfl, t, rfl⟩) ( all_cons (by obtain ⟨t, e⟩ := He.int_ok X G (c.d.fact 47 rfl); exact ⟨_, _, e, rfl, t, rfl⟩) ( all_nil))))
    exact h _ (lookup_mem hx)
  · have h : ∀ x ∈ bl, mg x = none := all_cons (He.free_ok X G (c.d.fact 32 rfl)) ( all_cons (He.free_ok X G (c.d.fact 33 rfl)) ( all_cons (He.free_ok X G (c.d.fact 34 rfl)) ( all_cons (He.free_ok X G (c.d.fact 35 rfl)) ( all_cons (He.free_ok X G (c.d.fact 36 rfl)) ( all_cons (He.free_ok X G (c.d.fact 37 rfl)) ( all_cons (He.free_ok X G (c.d.fact 38 rfl)) ( all_cons (He.free_ok X G (c.d.fact 39 rfl)) ( all_cons (He.free_ok X G (c.d.fact 40 rfl)) ( all_cons (He.free_ok X G (c.d.fact 41 rfl)) ( all_cons (He.free_ok X G (c.d.fact 42 rfl)) ( all_cons (He.free_ok X G (c.d.fact 43 rfl)) ( all_nil))))))))))))
    exact h x hx
  · have h : ∀ x ∈ exs, ExcHere P w K mg base (He.ga K) x := all_cons (exc_BadRow X G c) ( all_cons (exc_Clash X G c) ( all_nil))
    exact h x hx
theorem facts {f : Addr} (hfa : mg ("law" : Str) = some (.ref f)) : ∃ fd : FuncData, (∀ (s : Shared) (v : Value), BindsTo s fd ⟨[v], []⟩ [("_law_script", v)]) ∧ ∀ base : Heap, K.In base → base.Ns mainGlobals mg → FnOk P w K mg base (CXw P) (12 + 2) f fd ["_law_script"] (spF K w (He.ga K) (semT tbl 12) (rdOf tbl) 26 1) := by
  obtain ⟨fd, F⟩ := c.d.def_ 26 (d := dd_law) rfl
  have e := hfa.symm.trans (He.glo_ok X G (c.d.fact 26 (f := .glo "law") rfl))
  cases e
  have b := FunD.bindsA (ps := ["_law_script"]) F (fun _ _ _ _ _ _ us hl => match us, hl with | [_], _ => rfl)
  refine ⟨fd, fun s v => b s [v] rfl, fun base hb hn => ?_⟩
  exact fn_exw (fn_all (P := P) (w := w) (base := base) (lawc X G c) (fun _ => ⟨draw_here X G c, town_here X G c⟩) (defs_ok X G c) 12 "law" 26 1 _ fd _ ⟨"law", top 38, ["_law_script", "_law_town_here", "_law_row_here", "_law_turn_of", "_law_other", "_law_due", "_law_lots", "_law_highs", "_law_beat", "_law_own", "_law_tall", "_law_goal"], celOf (defScope (top 38)), f_law, fun_of F, sc_law, He.glo_ok X G (c.d.fact 26 rfl), FunD.bindsN F (fun _ _ _ _ _ _ us hl => match us, hl with | [_], _ => rfl), rfl, rfl, rfl, rfl, rfl, by decide, ck_law⟩)
end
end HxK
open PySem PySem.W PySem.Calls PyProof.Rows
theorem PySem.Challenge.cw_handsarc_k01_whole_fits_holds : PySem.Challenge.rw_handsarc_k01_whole_fits.Holds := by
  w_on; o_law
  refine HandSHeadRun.head_any (r := OpenLaw.row PySem.Challenge.rw_handsarc_k01_whole_fits) (q := view (OpenLaw.row PySem.Challenge.rw_handsarc_k01_whole_fits).prog [38]) (H := HxK.hk) (ob := HxK.ob) (M := 4000) (loose := HxK.loose) (d := HandSHeadRun.topDef (OpenLaw.row PySem.Challenge.rw_handsarc_k01_whole_fits).prog 38) (kwd := []) HxK.ob_eq
    (by kernel_rfl) (fun s => by kernel_rfl) HxK.run (by kernel_rfl) (by kernel_rfl) (by kernel_rfl) (by rfl) (by first | assumption | decide +kernel) (by decide +kernel) ⟨rfl, rfl, rfl, rfl, rfl, by decide +kernel⟩ ?hw ?hc
  case hw => w_witness2
  case hc =>
    refine L2.walk_ofE (l := PySem.Challenge.rw_handsarc_k01_whole_fits) (n := 63) (k := 12 + 2) (x := "_law_script") (CX := Hx.CXw PySem.Challenge.rw_handsarc_k01_whole_fits.prog) rfl (by decide) (by kernel_rfl) ⟨rfl, by decide, by decide⟩ ?F ?C
    case F =>
      intro w mg fa h Y G hmg0
      obtain ⟨K, KX, c⟩ := Y
      have hmg : mg ("law" : PySem.Str) = some (.ref fa) := by
        have e : (HandSHeadRun.topDef (OpenLaw.row PySem.Challenge.rw_handsarc_k01_whole_fits).prog 38).name = ("law" : PySem.Str) := by kernel_rfl
        rw [← e]
        exact hmg0
      obtain ⟨fd, hb, hF⟩ := HxK.facts (P := (PySem.Challenge.rw_handsarc_k01_whole_fits).prog) (w := w) KX G c hmg
      refine ⟨K, fd, Hx.spF K w (He.ga K) (Hx.semT Hx.tbl 12) (Hx.rdOf Hx.tbl) 26 1, KX, hb, fun H a ns hl hO hS => ?_, hF⟩
      obtain ⟨w', e⟩ := Hx.law_true ns hl
      exact Hx.law_sp e hO hS
    case C => exact fun H s e s' h => Hx.cxw_no H s e s' h

