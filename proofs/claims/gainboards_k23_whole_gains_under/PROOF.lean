import PyProof.Rows.All
import HandS.ForMost
import HandS.Exc
import HandS.ExcOwn
import HandS.WordsExc
import HandS.Walk
import HandS.IsInst
import HandS.Wide
import KE.SortData
import KE.LtData
import KE.KDictKeyed
import HandS.HeadHook1
import HandS.TupMul
import HandS.TupAny
import HandS.TupLe
import HandS.Zip
import KE.DataCmp
import KE.GoesEnum
import KE.GoesNew
import KE.SortCalls
import HandS.Text
import HandS.Dict
import KE.KDictDisplayH
import KE.KIndexOf
import HandS.Style
import HandS.Defaults
import HandS.More
import HandS.Head0
import HandS.Head1
import HandS.Head2
import HandS.HeadEnd
import HandS.HeadHook2
import PyProof.ExcBaseAll.ValueError
import PySem.Challenge.RW_gainboards_k23_whole_gains_under
set_option Elab.async false
set_option linter.all false
set_option maxRecDepth 100000
/-! GSem: plain values, a small language, its reckoning as a total function with fuel. -/
namespace GB
open PySem

/-- plain values -/
inductive PV where
  | non | bl (b : Bool) | int (i : Int) | str (s : Str)
  | tup (xs : List PV) | lst (xs : List PV) | dct (kvs : List (PV × PV))
  | cnt | obj (k : Nat) | exc (k : Nat) | scr (is : List Int)
deriving Inhabited

mutual
def PV.toD : PV → Option PyData
  | .non => some .none
  | .bl b => some (.bool b)
  | .int i => some (.int i)
  | .str s => some (.str s)
  | .tup xs => match PV.toDs xs with | some ds => some (.tuple ds) | none => none
  | .lst xs => match PV.toDs xs with | some ds => some (.list ds) | none => none
  | .scr is => some (.list (is.map .int))
  | _ => none
def PV.toDs : List PV → Option (List PyData)
  | [] => some []
  | x :: xs => match PV.toD x, PV.toDs xs with | some d, some ds => some (d :: ds) | _, _ => none
end
mutual
/-- no list, no dict within -/
def PV.imm : PV → Bool
  | .tup xs => PV.imms xs
  | .lst _ => false
  | .dct _ => false
  | .scr _ => false
  | _ => true
def PV.imms : List PV → Bool
  | [] => true
  | x :: xs => PV.imm x && PV.imms xs
end

/-- an object: its class, its version, its fields; a dict's pairs -/
structure OV where
  c : Nat
  v : Nat
  xs : List PV
  ps : List (PV × PV) := []
deriving Inhabited
structure S where
  cnt : Option Nat
  ob : List OV := []
deriving Inhabited

inductive Res (α : Type) where
  | stuck
  | ok (a : α) (s : S)
  | exc (k : Nat) (s : S)
abbrev M (α : Type) := S → Res α
def M.ret {α : Type} (a : α) : M α := fun s => .ok a s
def M.bind {α β : Type} (m : M α) (f : α → M β) : M β := fun s => match m s with
  | .stuck => .stuck
  | .ok a s' => f a s'
  | .exc k s' => .exc k s'
def M.stuck {α : Type} : M α := fun _ => .stuck
def M.raise {α : Type} (k : Nat) : M α := fun s => .exc k s
def ofO {α : Type} : Option α → M α
  | some a => M.ret a
  | none => M.stuck
/-- an exception within is not served -/
def M.noexc {α : Type} (m : M α) : M α := fun s => match m s with
  | .ok a s' => .ok a s'
  | _ => .stuck

inductive BOp where
  | add | sub | mul | fdiv | mod | pow
inductive COp where
  | eq | ne | lt | le | gt | ge | is | isnot | isin | notin
/-- built-ins by name -/
inductive Blt where
  | len | sum | all | any | min | max | tuple | list | sorted | int | str
/-- kinds asked by isinstance -/
inductive Ty where
  | int | bool | str | tuple | list | verr | exc (k : Nat)

mutual
inductive Ex where
  | var (i : Nat) | int (i : Int) | str (s : Str) | bl (b : Bool) | non | glob (g : Nat)
  | tup (es : Exs) | lst (es : Exs)
  | bin (op : BOp) (a b : Ex) | neg (a : Ex) | not (a : Ex)
  | cmp (op : COp) (a b : Ex) | cmp2 (op op' : COp) (a b c : Ex)
  | and (es : Exs) | or (es : Exs) | ite (c a b : Ex)
  | idx (a i : Ex) | sli (a lo hi : Ex) | rev (a : Ex) | omit
  | call (f : Nat) (es : Exs) | blt (f : Blt) (es : Exs) | isi (a : Ex) (t : Ty)
  | meth (m : Nat) (o : Ex) (es : Exs)
  | comp (elt : Ex) (tg : Tg) (it : Src) (cs : Exs)
  | fld (i j : Nat) | fix (i j : Nat) (e : Ex) | flen (i j : Nat) | fcut (i j : Nat) (b : Bool)
  | mk (c f : Nat) (es : Exs) | mcall (c f i : Nat) (es : Exs)
  | dnew | done (k v : Ex) | din (neg : Bool) (k : Ex) (i : Nat) | dget (i : Nat) (k : Ex) | dlen (i : Nat) | dsort (i : Nat)
  | revh (a : Ex) (h : Nat) | sset (a : Ex) | lrng (a : Ex) | trng (a : Ex)
inductive Exs where
  | nil | cons (e : Ex) (es : Exs)
inductive Src where
  | val (e : Ex) | range1 (a : Ex) | range2 (a b : Ex) | enum (a : Ex) | zip2 (a b : Ex) | zip3 (a b c : Ex)
inductive Tg where
  | name (i : Nat) | tup (ts : Tgs)
inductive Tgs where
  | nil | cons (t : Tg) (ts : Tgs)
end

mutual
inductive Cmd where
  | asg (t : Tg) (e : Ex)
  | par (ts : List Nat) (es : Exs)
  | seti (i : Nat) (ix e : Ex)
  | augi (i : Nat) (op : BOp) (ix e : Ex)
  | aug (i : Nat) (op : BOp) (e : Ex)
  | app (i : Nat) (e : Ex)
  | ext (i : Nat) (e : Ex)
  | pop (t : Option Tg) (i : Nat) (ix : Option Ex)
  | apppop (j i : Nat) (ix : Ex)
  | mkcnt (i : Nat)
  | expr (e : Ex)
  | ret (e : Ex)
  | ifs (c : Ex) (a b : Cmds)
  | fors (t : Tg) (it : Src) (body : Cmds)
  | whl (c : Ex) (body : Cmds)
  | raise (k : Nat)
  | pass
  | asgz (i : Nat) (e : Ex)
  | tryw (body : Cmds)
  | fset (i j : Nat) (e : Ex)
  | fseti (i j : Nat) (ix e : Ex)
  | fapp (i j : Nat) (e : Ex)
  | forf (t : Tg) (i j : Nat) (body : Cmds)
  | dput (i : Nat) (k e : Ex)
  | frz (is : List Nat)
inductive Cmds where
  | nil | cons (s : Cmd) (ss : Cmds)
end

/-! ### operators on plain values -/
def lim : Nat := 16000000
def big : Nat := 2 ^ 8000
def mulOk (i j : Int) : Bool := decide (i.natAbs < 18446744073709551616) || decide (j.natAbs < 18446744073709551616) || (decide (i.natAbs < big) && decide (j.natAbs < big))
def rep {α : Type} (k : Int) (xs : List α) : List α := (List.replicate k.toNat xs).flatten
def repOk (k : Int) (n : Nat) : Bool := decide (-1000000 ≤ k) && decide (k ≤ 1000) && decide (n ≤ 1000)
def binop : BOp → PV → PV → Option (PV × Bool)
  | .add, .int i, .int j => some (.int (i + j), false)
  | .add, .tup a, .tup b => if a.length + b.length ≤ lim then some (.tup (a ++ b), false) else none
  | .add, .lst a, .lst b => if a.length + b.length ≤ lim then some (.lst (a ++ b), true) else none
  | .add, .str a, .str b => if a.length + b.length ≤ lim then some (.str (a ++ b), false) else none
  | .sub, .int i, .int j => some (.int (i - j), false)
  | .mul, .int i, .int j => if mulOk i j then some (.int (i * j), false) else none
  | .mul, .tup a, .int k => if repOk k a.length then some (.tup (rep k a), false) else none
  | .mul, .lst a, .int k => if repOk k a.length then some (.lst (rep k a), true) else none
  | .fdiv, .int i, .int j => if 0 < j ∧ j.natAbs < big then some (.int (i / j), false) else none
  | .mod, .int i, .int j => if 0 < j then some (.int (i % j), false) else none
  | .pow, .int i, .int j => if 0 ≤ j ∧ j ≤ 1000 ∧ i.natAbs < 18446744073709551616 then some (.int (i ^ j.toNat), false) else none
  | _, _, _ => none

/-- == of data -/
def PV.eq? (x y : PV) : Option Bool := match x.toD, y.toD with
  | some d, some e => if SeqAt.shaped d && SeqAt.shaped e then some (PyData.eqv d e) else none
  | _, _ => none
/-- < of alike data -/
def PV.lt? (x y : PV) : Option Bool := match x, y with
  | .int i, .int j => some (decide (i < j))
  | .tup a, .tup b => match PV.toDs a, PV.toDs b with
    | some d, some e => if W.alike (.tuple d) (.tuple e) && decide (PyData.depth (.tuple d) ≤ 64) then some (W.dataLt (.tuple d) (.tuple e)) else none
    | _, _ => none
  | _, _ => none
def PV.in? (x y : PV) : Option Bool := match y with
  | .lst ys => match x.toD, PV.toDs ys with
    | some d, some ds => if SeqAt.shaped d && SeqAt.shaped (.list ds) then some (ds.any fun z => PyData.eqv z d) else none
    | _, _ => none
  | .tup ys => match x.toD, PV.toDs ys with
    | some d, some ds => if SeqAt.shaped d && SeqAt.shaped (.tuple ds) then some (ds.any fun z => PyData.eqv z d) else none
    | _, _ => none
  | .str t => match x with
    | .str s => some (!(Builtin.Str.occurrences t s 0 t.length 1).isEmpty)
    | _ => none
  | _ => none
def PV.is? (x y : PV) : Option Bool := match y with
  | .non => some (match x with | .non => true | _ => false)
  | .bl b => match x with
    | .bl c => some (c == b)
    | _ => none
  | _ => none
def onot : Option Bool → Option Bool
  | some b => some (!b)
  | none => none
def cmpop : COp → PV → PV → Option Bool
  | .eq, x, y => x.eq? y
  | .ne, x, y => onot (x.eq? y)
  | .lt, x, y => x.lt? y
  | .le, .int i, .int j => some (decide (i ≤ j))
  | .gt, .int i, .int j => some (decide (j < i))
  | .ge, .int i, .int j => some (decide (j ≤ i))
  | .is, x, y => x.is? y
  | .isnot, x, y => onot (x.is? y)
  | .isin, x, y => x.in? y
  | .notin, x, y => onot (x.in? y)
  | _, _, _ => none

def sIx (n d : Nat) : Option Int → Nat
  | none => d
  | some v => if v < 0 then (v + (n : Int)).toNat else Nat.min v.toNat n
def cut {α : Type} (xs : List α) (lo hi : Option Int) : List α := (xs.drop (sIx xs.length 0 lo)).take (sIx xs.length xs.length hi - sIx xs.length 0 lo)
def ixN (n : Nat) (i : Int) : Option Nat := if 0 ≤ i then (if i < n then some i.toNat else none) else if -(n : Int) ≤ i then some (i + n).toNat else none
def at? {α : Type} (xs : List α) (i : Int) : Option α := match ixN xs.length i with
  | some j => xs[j]?
  | none => none
def idxop : PV → PV → Option PV
  | .tup xs, .int i => at? xs i
  | .lst xs, .int i => at? xs i
  | .scr xs, .int i => match at? xs i with | some k => some (.int k) | none => none
  | _, _ => none
def cutop (x : PV) (lo hi : Option Int) : Option (PV × Bool) := match x with
  | .tup xs => some (.tup (cut xs lo hi), false)
  | .lst xs => some (.lst (cut xs lo hi), true)
  | _ => none

def intsOf : List PV → Option (List Int)
  | [] => some []
  | .int i :: xs => match intsOf xs with | some is => some (i :: is) | none => none
  | _ => none
def bools : List PV → Option (List Bool)
  | [] => some []
  | .bl i :: xs => match bools xs with | some is => some (i :: is) | none => none
  | _ => none
def seqOf : PV → Option (List PV)
  | .tup xs => some xs
  | .lst xs => some xs
  | _ => none
def isum (xs : List Int) : Int := xs.sum
def imax : Int → List Int → Int
  | m, [] => m
  | m, x :: xs => imax (if m < x then x else m) xs
def imin : Int → List Int → Int
  | m, [] => m
  | m, x :: xs => imin (if x < m then x else m) xs
/-- all places of one kind -/
def alikeList (ds : List PyData) : Bool := ds.all fun x => ds.all fun y => W.alike x y
def sortLe (x y : PV) : Bool := match x.toD, y.toD with
  | some d, some e => !W.dataLt e d
  | _, _ => true
def sortOk (ds : List PyData) : Bool := alikeList ds && ds.all (fun d => decide (d.depth ≤ 60)) && decide (ds.length ≤ lim) && (ds.all (fun d => match d with | .tuple (_ :: _) => true | _ => false) || ds.all (fun d => match d with | .int _ => true | _ => false))
def bltop : Blt → List PV → Option (PV × Bool)
  | .len, [.tup xs] => some (.int xs.length, false)
  | .len, [.lst xs] => some (.int xs.length, false)
  | .len, [.scr xs] => some (.int xs.length, false)
  | .len, [.cnt] => none
  | .len, [.str x] => if x.length ≤ lim then some (.int x.length, false) else none
  | .sum, [x] => match seqOf x with
    | some xs => match intsOf xs with | some is => some (.int is.sum, false) | none => none
    | none => none
  | .all, [.lst xs] => match bools xs with | some bs => some (.bl (bs.all id), false) | none => none
  | .any, [.lst xs] => match bools xs with | some bs => some (.bl (bs.any id), false) | none => none
  | .max, [.int i, .int j] => some (.int (if j > i then j else i), false)
  | .min, [.int i, .int j] => some (.int (if j < i then j else i), false)
  | .max, [x] => match seqOf x with
    | some xs => match intsOf xs with | some (i :: is) => some (.int (imax i is), false) | _ => none
    | none => none
  | .min, [x] => match seqOf x with
    | some xs => match intsOf xs with | some (i :: is) => some (.int (imin i is), false) | _ => none
    | none => none
  | .tuple, [.tup xs] => some (.tup xs, false)
  | .tuple, [.lst xs] => some (.tup xs, false)
  | .list, [.tup xs] => some (.lst xs, true)
  | .list, [.lst xs] => some (.lst xs, true)
  | .sorted, [x] => match seqOf x with
    | some xs => match PV.toDs xs with
      | some ds => if sortOk ds then some (.lst (xs.mergeSort sortLe), true) else none
      | none => none
    | none => none
  | _, _ => none
def tyOf : PV → Ty → Option Bool
  | .non, t => some (match t with | _ => false)
  | .bl _, t => some (match t with | .int => true | .bool => true | _ => false)
  | .int _, t => some (match t with | .int => true | _ => false)
  | .str _, t => some (match t with | .str => true | _ => false)
  | .tup _, t => some (match t with | .tuple => true | _ => false)
  | .lst _, t => some (match t with | .list => true | _ => false)
  | .scr _, t => some (match t with | .list => true | _ => false)
  | .exc k, t => match t with | .exc j => some (k == j) | .verr => some true | _ => none
  | _, _ => none

/-! ### the reckoning -/
abbrev Slt := Option (PV × Bool)
abbrev Envi := List Slt
structure Gam where
  fn : Nat → Option (List PV → M (PV × Bool))
  gl : Nat → Option PV
  mt : Nat → Option (List PV → M (PV × Bool)) := fun _ => none

def getZ (env : Envi) (i : Nat) : Option PV := match env[i]? with
  | some (some (x, false)) => some x
  | _ => none
def getB (env : Envi) (i : Nat) : Option PV := match env[i]? with
  | some (some (x, _)) => some x
  | _ => none
def isOwned (env : Envi) (i : Nat) : Bool := match env[i]? with
  | some (some (_, b)) => b
  | _ => false
def freezeAll (env : Envi) : Envi := env.map fun s => match s with
  | some (x, _) => some (x, false)
  | none => none
mutual
/-- a value stored at a target -/
def asgT : Tg → PV → Envi → Option Envi
  | .name i, v, env => some (env.set i (some (v, false)))
  | .tup ts, .tup xs, env => asgTs ts xs env
  | _, _, _ => none
def asgTs : Tgs → List PV → Envi → Option Envi
  | .nil, [], env => some env
  | .cons t ts, x :: xs, env => match asgT t x env with
    | some env' => asgTs ts xs env'
    | none => none
  | _, _, _ => none
end
mutual
def tgVars : Tg → List Nat
  | .name i => [i]
  | .tup ts => tgsVars ts
def tgsVars : Tgs → List Nat
  | .nil => []
  | .cons t ts => tgVars t ++ tgsVars ts
end
def mapMx (f : PV → M (Option PV)) : List PV → M (List PV)
  | [] => M.ret []
  | x :: xs => M.bind (f x) fun o => M.bind (mapMx f xs) fun ys => M.ret (match o with | some y => y :: ys | none => ys)
def zipW2 : List PV → List PV → List PV
  | x :: xs, y :: ys => .tup [x, y] :: zipW2 xs ys
  | _, _ => []
def zipW3 : List PV → List PV → List PV → List PV
  | x :: xs, y :: ys, z :: zs => .tup [x, y, z] :: zipW3 xs ys zs
  | _, _, _ => []
def enumW : Nat → List PV → List PV
  | _, [] => []
  | k, x :: xs => .tup [.int k, x] :: enumW (k + 1) xs
def rangeW (a b : Int) : List PV := (List.range (b - a).toNat).map fun i => .int (a + (i : Nat))
def rngOk (a b : Int) : Bool := decide (-1000000000 ≤ a) && decide (a ≤ 1000000000) && decide (-1000000000 ≤ b) && decide (b ≤ 1000000000) && decide ((b - a).toNat ≤ lim)
/-- split, join, index, count, upper by number -/
def methop : Nat → PV → List PV → Option (PV × Bool)
  | 0, .str s, [x] => match seqOf x with
    | some xs => match xs.mapM (fun y => match y with | .str t => some t | _ => none) with
      | some ts => if ts.all (fun t => decide (t.length ≤ 4000)) && decide (ts.length ≤ 1000) && decide (s.length ≤ 1000) then some (.str (Txt.join s ts), false) else none
      | none => none
    | none => none
  | 1, .str s, [.str t] => if t.length == 0 || decide (lim < s.length) then none else some (.lst ((Txt.split s t).map .str), true)
  | 2, .lst xs, [.int k] => match intsOf xs with | some ns => if ns.contains k && decide (ns.length ≤ lim) then some (.int (ns.idxOf k : Nat), false) else none | none => none
  | _, _, _ => none

/-- x[::-1], x[n::-1] -/
def revTake {α : Type} (h : Option Nat) (xs : List α) : List α := match h with
  | none => xs.reverse
  | some n => (xs.take (n + 1)).reverse
def revop (h : Option Nat) (x : PV) : Option (PV × Bool) := match x with
  | .tup xs => some (.tup (revTake h xs), false)
  | .lst xs => some (.lst (revTake h xs), true)
  | _ => none
/-- what has the method -/
def methOk : Nat → PV → Option Unit
  | 0, .str _ => some ()
  | 1, .str _ => some ()
  | 2, .lst _ => some ()
  | 3, .lst _ => some ()
  | 4, .str _ => some ()
  | _, _ => none
def asBool : PV → Option Bool
  | .bl b => some b
  | _ => none
def asIntO : PV → Option Int
  | .int b => some b
  | _ => none

def immR (r : PV × Bool) : Bool := r.1.imm || (r.2 && (match r.1 with | .lst ys => PV.imms ys | _ => false))
/-- a built-in; the counting list's length -/
def blt (f : Blt) (xs : List PV) : M (PV × Bool) := fun s => match f, xs with
  | .len, [.cnt] => match s.cnt with
    | some n => .ok (.int n, false) s
    | none => .stuck
  | f, xs => ofO (bltop f xs) s
def fstM (m : M (PV × Bool)) : M PV := M.bind m fun r => M.ret r.1
def isOmit : Ex → Bool
  | .omit => true
  | _ => false
/-- is a slot's own list lent to a call -/
def bor : Exs → Envi → Bool
  | .nil, _ => false
  | .cons e es, env => (match e with | .var i => isOwned env i | _ => false) || bor es env
/-! ### objects and dicts -/
/-- the object in a slot -/
def objAt (env : Envi) (i : Nat) : M (Nat × OV) := fun s => match getZ env i with
  | some (.obj k) => match s.ob[k]? with
    | some o => .ok (k, o) s
    | none => .stuck
  | _ => .stuck
/-- .. of the class of the field j -/
def objF (env : Envi) (i j : Nat) : M (Nat × OV) := M.bind (objAt env i) fun ko => if ko.2.c = j / 10 then M.ret ko else M.stuck
def PV.isL : PV → Bool
  | .lst _ => true | .dct _ => true | _ => false
/-- a field that is no list; a field that is one -/
def fldV (o : OV) (j : Nat) : Option PV := match o.xs[j % 10]? with
  | some x => if x.isL then none else some x
  | none => none
def fldL (o : OV) (j : Nat) : Option (List PV) := match o.xs[j % 10]? with
  | some (.lst ys) => some ys
  | _ => none
mutual
def PV.nk : PV → Option NestedKey
  | .int i => some (.num i)
  | .str s => some (.text s)
  | .tup xs => match PV.nks xs with | some ks => some (.tup ks) | none => none
  | _ => none
def PV.nks : List PV → Option (List NestedKey)
  | [] => some []
  | x :: xs => match PV.nk x, PV.nks xs with | some k, some ks => some (k :: ks) | _, _ => none
end
/-- a tuple that may be a key -/
def keyOk (x : PV) : Option NestedKey := match x with
  | .tup _ => match x.nk with
    | some k => if k.depth ≤ 8 then some k else none
    | none => none
  | _ => none
def sameK (k : NestedKey) (p : PV × PV) : Bool := match p.1.nk with | some k' => NestedKey.beq k' k | none => false
def dLook (ps : List (PV × PV)) (k : NestedKey) : Option PV := (ps.find? (sameK k)).map (·.2)
def dPut (ps : List (PV × PV)) (k : NestedKey) (x y : PV) : List (PV × PV) := if ps.any (sameK k) then ps.map (fun p => if sameK k p then (p.1, y) else p) else ps ++ [(x, y)]
def setAt {α : Type} (xs : List α) (j : Nat) (x : α) : Option (List α) := if j < xs.length then some (xs.set j x) else if j = xs.length then some (xs ++ [x]) else none
def clsName : Nat → Str
  | 0 => "Table" | _ => "Desk"
def clsFlds : Nat → List Str
  | 0 => ["count", "rows", "held"] | _ => ["board", "offers", "bought", "steps", "kept"]
/-- the object k written -/
def putO (k : Nat) (o : OV) : M Unit := fun s => .ok () { s with ob := s.ob.set k { o with v := o.v + 1 } }
mutual
/-- no object within a value from n on -/
def PV.oLt (n : Nat) : PV → Bool
  | .obj k => decide (k < n)
  | .tup xs => PV.oLts n xs
  | .lst xs => PV.oLts n xs
  | .dct _ => false
  | _ => true
def PV.oLts (n : Nat) : List PV → Bool
  | [] => true
  | x :: xs => PV.oLt n x && PV.oLts n xs
end
def unv (s : S) (k : Nat) : Option Nat := (s.ob[k]?).map (·.v)
/-- a new object, made by __init__ -/
def mkO (c : Nat) (g : List PV → M (PV × Bool)) (xs : List PV) : M (PV × Bool) := fun s => match g (.obj s.ob.length :: xs) { s with ob := s.ob ++ [⟨c, 0, [], []⟩] } with
  | .ok r s' => match r.1 with
    | .non => .ok (.obj s.ob.length, false) s'
    | _ => .stuck
  | .exc k s' => .exc k s'
  | .stuck => .stuck
/-- a new dict -/
def mkD (ps : List (PV × PV)) : M (PV × Bool) := fun s => .ok (.obj s.ob.length, false) { s with ob := s.ob ++ [⟨2, 0, [], ps⟩] }
/-- the first pair of a new dict -/
def oneD (k : Nat) (p : PV × PV) : M (PV × Bool) := fun s => if unv s k = some 0 then .ok (.obj k, false) { s with ob := s.ob.set k ⟨2, 1, [], [p]⟩ } else .stuck
/-- the dict in a slot -/
def dctAt (env : Envi) (i : Nat) : M (Nat × OV) := M.bind (objAt env i) fun ko => if ko.2.c = 2 then M.ret ko else M.stuck
/-- no object was written, none is new -/
def sameV (s s' : S) : Bool := s'.ob.map (·.v) == s.ob.map (·.v)
/-- a call to which own lists are lent -/
def lentM (m : M (PV × Bool)) : M (PV × Bool) := fun s => match m s with
  | .stuck => .stuck
  | .ok r s' => if immR r && sameV s s' then .ok r { s' with ob := s.ob } else .stuck
  | .exc k s' => if sameV s s' then .exc k { s' with ob := s.ob } else .stuck
mutual
/-- l: where a list in a slot may be lent -/
def evE (Γ : Gam) (l : Bool) : Ex → Envi → M (PV × Bool)
  | .var i, env => ofO (match (if l then getB env i else getZ env i) with | some x => some (x, false) | none => none)
  | .int i, _ => M.ret (.int i, false)
  | .str s, _ => M.ret (.str s, false)
  | .bl b, _ => M.ret (.bl b, false)
  | .non, _ => M.ret (.non, false)
  | .glob g, _ => ofO (match Γ.gl g with | some x => some (x, false) | none => none)
  | .tup es, env => M.bind (evals Γ es env) fun xs => M.ret (.tup xs, false)
  | .lst es, env => M.bind (evals Γ es env) fun xs => M.ret (.lst xs, true)
  | .bin op a b, env => M.bind (fstM (evE Γ true a env)) fun x => M.bind (fstM (evE Γ true b env)) fun y => ofO (binop op x y)
  | .neg a, env => M.bind (fstM (evE Γ true a env)) fun x => ofO (match x with | .int i => some (.int (-i), false) | _ => none)
  | .not a, env => M.bind (fstM (evE Γ true a env)) fun x => ofO (match asBool x with | some b => some (.bl (!b), false) | none => none)
  | .cmp op a b, env => M.bind (fstM (evE Γ true a env)) fun x => M.bind (fstM (evE Γ true b env)) fun y => ofO (match cmpop op x y with | some c => some (.bl c, false) | none => none)
  | .cmp2 op op' a b c, env => M.bind (fstM (evE Γ true a env)) fun x => M.bind (fstM (evE Γ true b env)) fun y => M.bind (ofO (cmpop op x y)) fun r =>
      if r then M.bind (fstM (evE Γ true c env)) fun z => ofO (match cmpop op' y z with | some c => some (.bl c, false) | none => none) else M.ret (.bl false, false)
  | .and es, env => evalAnd Γ es env
  | .or es, env => evalOr Γ es env
  | .ite c a b, env => M.bind (fstM (evE Γ true c env)) fun x => M.bind (ofO (asBool x)) fun t => if t then evE Γ false a env else evE Γ false b env
  | .idx a i, env => M.bind (fstM (evE Γ true a env)) fun x => M.bind (fstM (evE Γ true i env)) fun y => ofO (match idxop x y with | some z => some (z, false) | none => none)
  | .sli a lo hi, env => M.bind (fstM (evE Γ true a env)) fun x =>
      M.bind (if isOmit lo then M.ret none else M.bind (fstM (evE Γ true lo env)) fun x => ofO (match asIntO x with | some i => some (some i) | none => none)) fun l =>
      M.bind (if isOmit hi then M.ret none else M.bind (fstM (evE Γ true hi env)) fun x => ofO (match asIntO x with | some i => some (some i) | none => none)) fun h => ofO (cutop x l h)
  | .rev a, env => M.bind (fstM (evE Γ true a env)) fun x => ofO (revop none x)
  | .omit, _ => M.stuck
  | .call f es, env => M.bind (ofO (Γ.fn f)) fun g => M.bind (evalsB Γ es env) fun xs => if bor es env then lentM (g xs) else g xs
  | .blt f es, env => M.bind (evalsB Γ es env) fun xs => blt f xs
  | .isi a t, env => M.bind (fstM (evE Γ true a env)) fun x => ofO (match tyOf x t with | some b => some (.bl b, false) | none => none)
  | .meth m o es, env => M.bind (fstM (evE Γ true o env)) fun x => M.bind (ofO (methOk m x)) fun _ => M.bind (evalsB Γ es env) fun xs => ofO (methop m x xs)
  | .comp elt tg it cs, env => M.bind (evalIt Γ it env) fun xs => if xs.length ≤ lim then M.noexc (M.bind (mapMx (fun v => M.bind (ofO (asgT tg v env)) fun env' =>
      M.bind (evalCs Γ cs env') fun b => if b then M.bind (evE Γ false elt env') fun y => M.ret (some y.1) else M.ret none) xs) fun ys => M.ret (.lst ys, true)) else M.stuck
  | .fld i j, env => M.bind (objF env i j) fun ko => ofO (match fldV ko.2 j with | some x => some (x, false) | none => none)
  | .fix i j e, env => M.bind (objF env i j) fun ko => M.bind (ofO (fldL ko.2 j)) fun _ => M.bind (fstM (evE Γ true e env)) fun y => M.bind (objF env i j) fun kp => if kp.2.v = ko.2.v then
      ofO (match fldL kp.2 j, asIntO y with | some ys, some n => (match at? ys n with | some z => some (z, false) | none => none) | _, _ => none) else M.stuck
  | .flen i j, env => M.bind (objF env i j) fun ko => ofO (match fldL ko.2 j with | some ys => some (.int ys.length, false) | none => none)
  | .fcut i j b, env => M.bind (objF env i j) fun ko => ofO (match fldL ko.2 j with | some ys => some (.lst (if b then cut ys none (some (-1)) else ys), true) | none => none)
  | .mk c f es, env => M.bind (ofO (Γ.mt f)) fun g => M.bind (evals Γ es env) fun xs => mkO c g xs
  | .mcall c f i es, env => M.bind (ofO (Γ.mt f)) fun g => M.bind (objAt env i) fun ko => if ko.2.c = c then M.bind (evals Γ es env) fun xs => g (.obj ko.1 :: xs) else M.stuck
  | .dnew, _ => mkD []
  | .done k v, env => fun s => M.bind (evE Γ false k env) (fun x => M.bind (evE Γ false v env) fun y => M.bind (ofO (keyOk x.1)) fun _ => if y.1.oLt 0 then oneD s.ob.length (x.1, y.1) else M.stuck) { s with ob := s.ob ++ [⟨2, 0, [], []⟩] }
  | .din neg k i, env => M.bind (evE Γ false k env) fun x => M.bind (dctAt env i) fun ko => M.bind (ofO (keyOk x.1)) fun nk => M.ret (.bl (if neg then !(dLook ko.2.ps nk).isSome else (dLook ko.2.ps nk).isSome), false)
  | .dget i k, env => M.bind (dctAt env i) fun _ => M.bind (evE Γ false k env) fun x => M.bind (dctAt env i) fun ko => M.bind (ofO (keyOk x.1)) fun nk => ofO (match dLook ko.2.ps nk with | some y => some (y, false) | none => none)
  | .dlen i, env => M.bind (dctAt env i) fun ko => if ko.2.ps.length ≤ lim then M.ret (.int ko.2.ps.length, false) else M.stuck
  | .dsort i, env => M.bind (dctAt env i) fun ko => ofO (bltop .sorted [.lst (ko.2.ps.map (·.1))])
  | .revh a n, env => M.bind (fstM (evE Γ true a env)) fun x => ofO (revop (some n) x)
  | .sset a, env => M.bind (fstM (evE Γ true a env)) fun _ => M.stuck
  | .lrng a, env => M.bind (fstM (evE Γ true a env)) fun x => ofO (match asIntO x with | some n => if rngOk 0 n then some (.lst (rangeW 0 n), true) else none | none => none)
  | .trng a, env => M.bind (fstM (evE Γ true a env)) fun x => ofO (match asIntO x with | some n => if rngOk 0 n then some (.tup (rangeW 0 n), false) else none | none => none)
def evals (Γ : Gam) : Exs → Envi → M (List PV)
  | .nil, _ => M.ret []
  | .cons e es, env => M.bind (evE Γ false e env) fun r => M.bind (evals Γ es env) fun xs => M.ret (r.1 :: xs)
def evalsB (Γ : Gam) : Exs → Envi → M (List PV)
  | .nil, _ => M.ret []
  | .cons e es, env => M.bind (fstM (evE Γ true e env)) fun x => M.bind (evalsB Γ es env) fun xs => M.ret (x :: xs)
def evalAnd (Γ : Gam) : Exs → Envi → M (PV × Bool)
  | .nil, _ => M.ret (.bl true, false)
  | .cons e es, env => M.bind (fstM (evE Γ true e env)) fun x => M.bind (ofO (asBool x)) fun b => if b then evalAnd Γ es env else M.ret (.bl false, false)
def evalOr (Γ : Gam) : Exs → Envi → M (PV × Bool)
  | .nil, _ => M.ret (.bl false, false)
  | .cons e es, env => M.bind (fstM (evE Γ true e env)) fun x => M.bind (ofO (asBool x)) fun b => if b then M.ret (.bl true, false) else evalOr Γ es env
def evalCs (Γ : Gam) : Exs → Envi → M Bool
  | .nil, _ => M.ret true
  | .cons e es, env => M.bind (fstM (evE Γ true e env)) fun x => M.bind (ofO (asBool x)) fun b => if b then evalCs Γ es env else M.ret false
/-- what is walked -/
def evalIt (Γ : Gam) : Src → Envi → M (List PV)
  | .val e, env => M.bind (fstM (evE Γ true e env)) fun x => ofO (seqOf x)
  | .range1 a, env => M.bind (fstM (evE Γ true a env)) fun x => ofO (match asIntO x with | some n => if rngOk 0 n then some (rangeW 0 n) else none | none => none)
  | .range2 a b, env => M.bind (fstM (evE Γ true a env)) fun x => M.bind (fstM (evE Γ true b env)) fun y => ofO (match asIntO x, asIntO y with | some m, some n => if rngOk m n then some (rangeW m n) else none | _, _ => none)
  | .enum a, env => M.bind (fstM (evE Γ true a env)) fun x => ofO (match seqOf x with | some xs => some (enumW 0 xs) | none => none)
  | .zip2 a b, env => M.bind (fstM (evE Γ true a env)) fun x => M.bind (fstM (evE Γ true b env)) fun y => ofO (match seqOf x, seqOf y with | some xs, some ys => some (zipW2 xs ys) | _, _ => none)
  | .zip3 a b c, env => M.bind (fstM (evE Γ true a env)) fun x => M.bind (fstM (evE Γ true b env)) fun y => M.bind (fstM (evE Γ true c env)) fun z => ofO (match seqOf x, seqOf y, seqOf z with | some xs, some ys, some zs => some (zipW3 xs ys zs) | _, _, _ => none)
end
/-- where a list in a slot may be lent -/
abbrev evalB (Γ : Gam) (m : Ex) (env : Envi) : M PV := fstM (evE Γ true m env)

inductive Fl where
  | next | ret (x : PV) (fr : Bool)

/-- a value with its freshness stored at a name -/
def putR (t : Tg) (r : PV × Bool) (env : Envi) : Option Envi := match t with
  | .name i => some (env.set i (some r))
  | t => asgT t r.1 env
def freeze1 : Ex → Envi → Envi
  | .var i, env => match env[i]? with
    | some (some (x, _)) => env.set i (some (x, false))
    | _ => env
  | _, env => env
/-- what a for walks is not written from then on -/
def freezeIt : Src → Envi → Envi
  | .val e, env => freeze1 e env
  | .enum e, env => freeze1 e env
  | .zip2 a b, env => freeze1 b (freeze1 a env)
  | .zip3 a b c, env => freeze1 c (freeze1 b (freeze1 a env))
  | _, env => env
def ownL (env : Envi) (i : Nat) : Option (List PV) := match env[i]? with
  | some (some (.lst xs, true)) => some xs
  | _ => none
def whileN (c : Envi → M Bool) (b : Envi → M (Fl × Envi)) : Nat → Envi → M (Fl × Envi)
  | 0, _ => M.stuck
  | n + 1, env => M.bind (c env) fun t => if t then M.bind (b env) fun r => match r.1 with
      | .next => whileN c b n r.2
      | .ret x f => M.ret (.ret x f, r.2)
    else M.ret (.next, env)
def forN (t : Tg) (b : Envi → M (Fl × Envi)) : List PV → Envi → M (Fl × Envi)
  | [], env => M.ret (.next, env)
  | v :: vs, env => M.bind (ofO (asgT t v env)) fun env' => M.bind (b env') fun r => match r.1 with
      | .next => forN t b vs r.2
      | .ret x f => M.ret (.ret x f, r.2)
def evalR (Γ : Gam) : Exs → Envi → M (List (PV × Bool))
  | .nil, _ => M.ret []
  | .cons e es, env => M.bind (evE Γ false e env) fun r => M.bind (evalR Γ es env) fun rs => M.ret (r :: rs)
def putRs : List Nat → List (PV × Bool) → Envi → Option Envi
  | [], [], env => some env
  | i :: is, r :: rs, env => putRs is rs (env.set i (some r))
  | _, _, _ => none

/-- xs.pop(..) of an own list -/
def popM (Γ : Gam) (i : Nat) (ix : Option Ex) (env : Envi) : M (PV × Envi) := M.bind (ofO (ownL env i)) fun xs => if xs.length ≤ lim then
    M.bind (match ix with | none => M.ret (xs.length - 1) | some e => M.bind (evalB Γ e env) fun y => ofO (match asIntO y with | some k => ixN xs.length k | none => none)) fun j =>
    M.bind (ofO xs[j]?) fun v => M.ret (v, env.set i (some (.lst (xs.eraseIdx j), true)))
  else M.stuck
/-- slots whose lists are not written from then on -/
def frzAt (is : List Nat) (env : Envi) : Envi := is.foldl (fun e i => freeze1 (.var i) e) env
/-- the object k is still of the version v -/
def sameVer (k v : Nat) (r : Fl × Envi) : M (Fl × Envi) := fun s => if unv s k = some v then .ok r s else .stuck
mutual
def exC (Γ : Gam) (n : Nat) : Cmd → Envi → M (Fl × Envi)
  | .asg t e, env => M.bind (evE Γ false e env) fun r => M.bind (ofO (putR t r env)) fun env' => M.ret (.next, env')
  | .par ts es, env => M.bind (evalR Γ es env) fun rs => M.bind (ofO (putRs ts rs env)) fun env' => M.ret (.next, env')
  | .seti i ix e, env => M.bind (ofO (ownL env i)) fun xs => M.bind (evE Γ false e env) fun r => M.bind (evalB Γ ix env) fun y =>
      ofO (match asIntO y with
        | some k => match ixN xs.length k with
          | some j => some (.next, env.set i (some (.lst (xs.set j r.1), true)))
          | none => none
        | none => none)
  | .augi i op ix e, env => M.bind (ofO (ownL env i)) fun xs => M.bind (evalB Γ ix env) fun y => M.bind (ofO (match asIntO y with | some k => ixN xs.length k | none => none)) fun j =>
      M.bind (ofO xs[j]?) fun old => M.bind (evE Γ false e env) fun r => M.bind (ofO (match old, r.1 with | .int _, .int _ => binop op old r.1 | _, _ => none)) fun z =>
      M.ret (.next, env.set i (some (.lst (xs.set j z.1), true)))
  | .aug i op e, env => M.bind (ofO (getZ env i)) fun old => M.bind (evE Γ false e env) fun r => M.bind (ofO (match old, r.1 with | .int _, .int _ => binop op old r.1 | _, _ => none)) fun z =>
      M.ret (.next, env.set i (some (z.1, false)))
  | .app i e, env => match getZ env i with
    | some .cnt => M.bind (evE Γ false e env) fun r => fun s => match r.1, s.cnt with
      | .int 0, some k => if k < lim then .ok (.next, env) { s with cnt := some (k + 1) } else .stuck
      | _, _ => .stuck
    | _ => M.bind (ofO (ownL env i)) fun xs => M.bind (evE Γ false e env) fun r => if xs.length < lim then M.ret (.next, env.set i (some (.lst (xs ++ [r.1]), true))) else M.stuck
  | .ext i e, env => M.bind (ofO (ownL env i)) fun xs => M.bind (evalB Γ e env) fun y => ofO (match y with
      | .lst ys => if xs.length + ys.length ≤ lim then some (.next, env.set i (some (.lst (xs ++ ys), true))) else none
      | _ => none)
  | .pop t i ix, env => M.bind (popM Γ i ix env) fun r => match t with
      | none => M.ret (.next, r.2)
      | some t => M.bind (ofO (asgT t r.1 r.2)) fun env' => M.ret (.next, env')
  | .apppop q i e, env => M.bind (ofO (ownL env q)) fun zs => if q = i then M.stuck else M.bind (popM Γ i (some e) env) fun r =>
      if zs.length < lim then M.ret (.next, r.2.set q (some (.lst (zs ++ [r.1]), true))) else M.stuck
  | .mkcnt i, env => fun s => match s.cnt with
      | none => .ok (.next, env.set i (some (.cnt, false))) { s with cnt := some 0 }
      | some _ => .stuck
  | .expr e, env => M.bind (evE Γ false e env) fun _ => M.ret (.next, env)
  | .ret (.var i), env => M.bind (ofO (match env[i]? with | some (some r) => some r | _ => none)) fun r => M.ret (.ret r.1 r.2, env)
  | .ret e, env => M.bind (evE Γ false e (freezeAll env)) fun r => M.ret (.ret r.1 r.2, env)
  | .ifs c a b, env => M.bind (evalB Γ c env) fun x => M.bind (ofO (asBool x)) fun t => if t then exCs Γ n a env else exCs Γ n b env
  | .fors t it body, env => M.bind (evalIt Γ it (freezeIt it env)) fun xs => forN t (exCs Γ n body) xs (freezeIt it env)
  | .whl c body, env => whileN (fun env => M.bind (evalB Γ c env) fun x => ofO (asBool x)) (exCs Γ n body) n env
  | .raise k, _ => M.raise k
  | .pass, env => M.ret (.next, env)
  | .asgz i e, env => M.bind (evE Γ false e env) fun r => M.ret (.next, env.set i (some (r.1, false)))
  | .tryw body, env => fun s => match exCs Γ n body env s with
      | .stuck => .stuck
      | .ok r s' => .ok r s'
      | .exc k s' => .ok (.ret (.tup [.str "raised", .int k]) false, env) s'
  | .fset i j e, env => M.bind (evE Γ false e env) fun r => M.bind (objF env i j) fun ko => if (clsFlds (j / 10)).length ≤ j % 10 || decide (j / 10 = 2) then M.stuck else
      if (r.1.isL && !r.2) || !r.1.oLt 0 then M.stuck else M.bind (ofO (setAt ko.2.xs (j % 10) r.1)) fun xs => M.bind (putO ko.1 { ko.2 with xs := xs }) fun _ => M.ret (.next, env)
  | .fseti i j ix e, env => M.bind (evE Γ false e env) fun r => M.bind (objF env i j) fun ko => M.bind (ofO (fldL ko.2 j)) fun _ => M.bind (evalB Γ ix env) fun y => M.bind (objF env i j) fun kp => if kp.2.v = ko.2.v ∧ r.1.oLt 0 = true then
      M.bind (ofO (match fldL kp.2 j, asIntO y with | some ys, some m => (match ixN ys.length m with | some p => some (ys.set p r.1) | none => none) | _, _ => none)) fun ys =>
      M.bind (putO kp.1 { kp.2 with xs := kp.2.xs.set (j % 10) (.lst ys) }) fun _ => M.ret (.next, env) else M.stuck
  | .fapp i j e, env => M.bind (objF env i j) fun ko => M.bind (ofO (fldL ko.2 j)) fun _ => M.bind (evE Γ false e env) fun r => M.bind (objF env i j) fun kp => if kp.2.v = ko.2.v ∧ r.1.oLt 0 = true then
      M.bind (ofO (match fldL kp.2 j with | some ys => if ys.length < lim then some (ys ++ [r.1]) else none | none => none)) fun ys =>
      M.bind (putO kp.1 { kp.2 with xs := kp.2.xs.set (j % 10) (.lst ys) }) fun _ => M.ret (.next, env) else M.stuck
  | .forf t i j body, env => M.bind (objF env i j) fun ko => M.bind (ofO (fldL ko.2 j)) fun ys =>
      forN t (fun e => M.bind (exCs Γ n body e) fun r => sameVer ko.1 ko.2.v r) (enumW 0 ys) env
  | .dput i k e, env => M.bind (evE Γ false e env) fun r => M.bind (dctAt env i) fun ko => M.bind (evE Γ false k env) fun x => M.bind (dctAt env i) fun kp => if kp.2.v = ko.2.v ∧ r.1.oLt 0 = true then
      M.bind (ofO (keyOk x.1)) fun nk => if kp.2.ps.length < lim then M.bind (putO kp.1 { kp.2 with ps := dPut kp.2.ps nk x.1 r.1 }) fun _ => M.ret (.next, env) else M.stuck else M.stuck
  | .frz is, env => M.ret (.next, frzAt is env)
def exCs (Γ : Gam) (n : Nat) : Cmds → Envi → M (Fl × Envi)
  | .nil, env => M.ret (.next, env)
  | .cons s ss, env => M.bind (exC Γ n s env) fun r => match r.1 with
      | .next => exCs Γ n ss r.2
      | .ret x f => M.ret (.ret x f, r.2)
end
/-- a def: its parameters' number, its slots' number, its body -/
structure Dfn where
  ps : Nat
  ns : Nat
  body : Cmds
/-- the objects that are new and not handed out are dropped -/
def drp (n : Nat) (x : PV) (s : S) : S := if x.oLt n then { s with ob := s.ob.take n } else s
def dropM (m : M (PV × Bool)) : M (PV × Bool) := fun s => match m s with
  | .stuck => .stuck
  | .ok r s' => .ok r (drp s.ob.length r.1 s')
  | .exc k s' => .exc k { s' with ob := s'.ob.take s.ob.length }
def run (Γ : Gam) (n : Nat) (D : Dfn) (args : List PV) : M (PV × Bool) :=
  if args.length = D.ps then
    dropM (M.bind (exCs Γ n D.body (args.map (fun x => some (x, false)) ++ List.replicate (D.ns - D.ps) none)) fun r => match r.1 with
      | .ret x f => M.ret (x, f)
      | .next => M.ret (.non, false))
  else M.stuck
end GB

/-! GRep: how plain values stand in the layer's heap. -/
namespace GB
open PySem PySem.Spec PyProof.Rows L2

/-- the written part, the text, the world -/
structure KX where
  K : PySem.W.Frag
  P : Program
  w : World
abbrev _root_.L2.Cx.kx (X : Cx) : KX := ⟨X.K, X.prog, X.w⟩
abbrev SqT (K : KX) := L2.SqT K.K
abbrev SqL (K : KX) := L2.SqL K.K
abbrev Dp (K : KX) := L2.Dp K.K
abbrev DpAll (K : KX) := L2.DpAll K.K
/-- an object: where it and its dict stand, its class, its version, its fields, what its lists hold -/
structure OG where
  a : Addr
  dx : Addr
  c : Nat
  v : Nat
  vs : List V
  ws : List (Option (List V))
  es : List (NestedKey × Addr × V)
/-- what is known beside the heap: the addresses whose lists are never written again; the counting list; the objects; what belongs to objects -/
structure Gh where
  L : Addr → Prop
  ca : Option Addr
  k : KX
  oo : List OG
  om : Addr → Prop
def Gh.mut (G : Gh) (p : Addr) : Prop := G.ca = some p ∨ G.om p
/-- the objects stay, those of the same version as they are -/
def OoLe (oo oo' : List OG) : Prop := ∀ (j : Nat) (o : OG), oo[j]? = some o → ∃ o', oo'[j]? = some o' ∧ o'.a = o.a ∧ o'.dx = o.dx ∧ o'.c = o.c ∧ o.v ≤ o'.v ∧ (o'.v = o.v → o' = o)
theorem OoLe.refl {oo : List OG} : OoLe oo oo := fun _ o h => ⟨o, h, rfl, rfl, rfl, Nat.le_refl _, fun _ => rfl⟩
theorem OoLe.trans {a b c : List OG} (h : OoLe a b) (k : OoLe b c) : OoLe a c := fun j o e => by
  obtain ⟨o1, e1, f1, f2, f3, f4, f5⟩ := h j o e
  obtain ⟨o2, e2, g1, g2, g3, g4, g5⟩ := k j o1 e1
  refine ⟨o2, e2, g1.trans f1, g2.trans f2, g3.trans f3, Nat.le_trans f4 g4, fun z => ?_⟩
  have z1 : o1.v = o.v := by omega
  have z2 : o2.v = o1.v := by omega
  rw [g5 z2, f5 z1]
/-- L grows by new addresses alone -/
structure Le (G G' : Gh) (H : Hp) : Prop where
  l : ∀ p, G.L p → G'.L p
  ln : ∀ p, G'.L p → G.L p ∨ H p = none
  m : ∀ p, G.mut p → G'.mut p
  mn : ∀ p, G'.mut p → G.mut p ∨ H p = none
  c : ∀ a, G.ca = some a → G'.ca = some a
  k : G'.k = G.k
  o : OoLe G.oo G'.oo
def Keep (G : Gh) (H H' : Hp) : Prop := ∀ p o, ¬ G.mut p → H p = some o → H' p = some o
/-- what never changes -/
def Tfz (o : HO) : Prop := (∃ vs, o = .tup vs) ∨ ∃ b u, o = .frz b u
/-- frozen lists, tuples and the script's stay -/
def KeepL (G : Gh) (H H' : Hp) : Prop := ∀ p o, (G.L p ∨ Tfz o) → H p = some o → H' p = some o
/-- what makes values stay -/
structure Gr (G G' : Gh) : Prop where
  l : ∀ p, G.L p → G'.L p
  c : ∀ a, G.ca = some a → G'.ca = some a
  k : G'.k = G.k
  o : OoLe G.oo G'.oo
theorem Le.gr {G G' : Gh} {H : Hp} (l : Le G G' H) : Gr G G' := ⟨l.l, l.c, l.k, l.o⟩
theorem Gr.refl {G : Gh} : Gr G G := ⟨fun _ h => h, fun _ h => h, rfl, OoLe.refl⟩

section
variable (K : KX)
mutual
inductive Rep (G : Gh) (H : Hp) : V → PV → Prop where
  | non : Rep G H .non .non
  | bl (b : Bool) : Rep G H (.bl b) (.bl b)
  | int (i : Int) : Rep G H (.int i) (.int i)
  | str (s : Str) : Rep G H (.str s) (.str s)
  | tup {p : Addr} {vs : List V} {xs : List PV} : SqT K H p vs → Reps G H vs xs → Rep G H (.ref p) (.tup xs)
  | lst {p : Addr} {vs : List V} {xs : List PV} : G.L p → H p = some (.lst vs) → Reps G H vs xs → Rep G H (.ref p) (.lst xs)
  | scr {p : Addr} {is : List Int} : (G.L p ∧ Rd H p (.lst (is.map V.int))) ∨ SqL K (fun _ => none) p (is.map V.int) → Rep G H (.ref p) (.scr is)
  | cnt {p : Addr} : G.ca = some p → Rep G H (.ref p) .cnt
  | obj {p : Addr} {k : Nat} {o : OG} : G.k = K → G.oo[k]? = some o → o.a = p → Rep G H (.ref p) (.obj k)
inductive Reps (G : Gh) (H : Hp) : List V → List PV → Prop where
  | nil : Reps G H [] []
  | cons {v : V} {vs : List V} {x : PV} {xs : List PV} : Rep G H v x → Reps G H vs xs → Reps G H (v :: vs) (x :: xs)
end
end
/-- the fields of an object -/
inductive FReps (G : Gh) (H : Hp) : List V → List (Option (List V)) → List PV → Prop where
  | nil : FReps G H [] [] []
  | val {v : V} {x : PV} {vs : List V} {ws : List (Option (List V))} {xs : List PV} : Rep G.k G H v x → x.isL = false → x.oLt 0 = true → FReps G H vs ws xs → FReps G H (v :: vs) (none :: ws) (x :: xs)
  | lst {p : Addr} {us : List V} {ys : List PV} {vs : List V} {ws : List (Option (List V))} {xs : List PV} : G.om p → H p = some (.lst us) → Reps G.k G H us ys → PV.oLts 0 ys = true → FReps G H vs ws xs → FReps G H (.ref p :: vs) (some us :: ws) (.lst ys :: xs)

/-- the dict at d has these entries -/
def dPhi (K : KX) (d : Addr) (ents : List (NestedKey × Addr × V)) : Heap → Prop := fun h => ∃ o es ep, h.get? d = some o ∧ o.ExactDict ∧ o.data = .dict es ep ∧
  ∃ xs : List (NestedKey × Addr × Value), xs.map (fun x => (x.1, x.2.1)) = ents.map (fun x => (x.1, x.2.1)) ∧ Vals (ents.map (·.2.2)) (xs.map (·.2.2)) ∧ es.toList = xs.map (entryOfKey (nestedKind K.P K.w)) ∧ (xs.map (·.1)).Nodup ∧ (d == sysModules) = false
def dO (K : KX) (d : Addr) (ents : List (NestedKey × Addr × V)) : HO := .ext (dPhi K d ents)
inductive EReps (G : Gh) (H : Hp) : List (NestedKey × Addr × V) → List (PV × PV) → Prop where
  | nil : EReps G H [] []
  | cons {k : NestedKey} {a : Addr} {v : V} {x y : PV} {es : List (NestedKey × Addr × V)} {ps : List (PV × PV)} : Rep G.k G H (.ref a) x → x.nk = some k → k.depth ≤ 8 → Rep G.k G H v y → y.oLt 0 = true → EReps G H es ps → EReps G H ((k, a, v) :: es) ((x, y) :: ps)
/-- an object: a dict (class 2) or an instance -/
structure OOk (G : Gh) (H : Hp) (o : OG) (ov : OV) : Prop where
  c : o.c = ov.c
  v : o.v = ov.v
  oma : G.om o.a
  bd : if o.c = 2 then o.vs = [] ∧ H o.a = some (dO G.k o.a o.es) ∧ EReps G H o.es ov.ps
    else H o.a = some (.ins (He.ga G.k.K (clsName o.c)) o.dx ((clsFlds o.c).zip o.vs)) ∧ ov.xs.length ≤ (clsFlds o.c).length ∧ FReps G H o.vs o.ws ov.xs
/-- the counting list, what is asked of L, what belongs to objects -/
structure Wb (G : Gh) (H : Hp) (st : S) : Prop where
  lm : ∀ p, G.L p → ¬ G.mut p
  lt : ∀ p, G.L p → ∃ o, H p = some o
  cn : match st.cnt with
    | some n => ∃ a, G.ca = some a ∧ H a = some (.lst (List.replicate n (.int 0)))
    | none => G.ca = none
  co : ∀ a, G.ca = some a → ¬ G.om a
  om : ∀ p, G.om p → (∃ vs, H p = some (.lst vs)) ∨ (∃ C dx fs, H p = some (.ins C dx fs)) ∨ ∃ φ, H p = some (.ext φ)
structure Wr (G : Gh) (H : Hp) (st : S) : Prop extends Wb G H st where
  ol : G.oo.length = st.ob.length
  ob : ∀ (j : Nat) (o : OG) (ov : OV), G.oo[j]? = some o → st.ob[j]? = some ov → OOk G H o ov
  ds : ∀ (j j' i i' : Nat) (o o' : OG) (p : Addr) (us us' : List V), G.oo[j]? = some o → G.oo[j']? = some o' → o.vs[i]? = some (.ref p) → o.ws[i]? = some (some us) → o'.vs[i']? = some (.ref p) → o'.ws[i']? = some (some us') → j = j' ∧ i = i'
  da : ∀ (j j' : Nat) (o o' : OG), G.oo[j]? = some o → G.oo[j']? = some o' → o.a = o'.a → j = j'
section
variable (K : KX)
/-- lent: a list that may be written later by its owner -/
inductive WRep (G : Gh) (H : Hp) : V → PV → Prop where
  | rep {v : V} {x : PV} : Rep K G H v x → WRep G H v x
  | lst {p : Addr} {vs : List V} {xs : List PV} : ¬ G.mut p → H p = some (.lst vs) → Reps K G H vs xs → WRep G H (.ref p) (.lst xs)
/-- what is reckoned: fresh (a new list that nobody else holds) or not; H₀ the heap ahead -/
def ResOk (H₀ : Hp) (G : Gh) (H : Hp) (v : V) (x : PV) (fr : Bool) : Prop :=
  if fr = true then ∃ p vs xs, v = .ref p ∧ x = .lst xs ∧ ¬ G.mut p ∧ ¬ G.L p ∧ H₀ p = none ∧ H p = some (.lst vs) ∧ Reps K G H vs xs
  else Rep K G H v x
structure After (G : Gh) (H : Hp) (st' : S) (G' : Gh) (H' : Hp) : Prop where
  le : Le G G' H
  keep : Keep G H H'
  wr : Wr G' H' st'
end

section
variable {K : KX} {G G' G1 G2 : Gh} {H H' H1 H2 : Hp} {st st1 st2 : S}
theorem Wr.cnt_lst (w : Wr G H st) {a : Addr} (h : G.ca = some a) : ∃ n, st.cnt = some n ∧ H a = some (.lst (List.replicate n (.int 0))) := by
  have c := w.cn
  cases e : st.cnt with
  | none =>
    rw [e] at c
    simp only at c
    rw [h] at c
    cases c
  | some n =>
    rw [e] at c
    obtain ⟨b, h1, h2⟩ := c
    rw [h] at h1
    cases h1
    exact ⟨n, rfl, h2⟩
theorem Wb.mut_sh (w : Wb G H st) {a : Addr} {o : HO} (h : G.mut a) (e : H a = some o) : ¬ Tfz o := fun z => by
  have k : (∃ vs, o = .lst vs) ∨ (∃ C dx fs, o = .ins C dx fs) ∨ ∃ φ, o = .ext φ := by
    rcases h with h | h
    · have c := w.cn
      cases q : st.cnt with
      | none =>
        rw [q] at c
        simp only at c
        rw [h] at c
        cases c
      | some n =>
        rw [q] at c
        obtain ⟨b, h1, h2⟩ := c
        rw [h] at h1
        cases h1
        rw [e] at h2
        cases h2
        exact .inl ⟨_, rfl⟩
    · rcases w.om a h with ⟨vs, q⟩ | ⟨C, dx, fs, q⟩ | ⟨φ, q⟩ <;> rw [e] at q <;> cases q
      · exact .inl ⟨_, rfl⟩
      · exact .inr (.inl ⟨_, _, _, rfl⟩)
      · exact .inr (.inr ⟨_, rfl⟩)
  rcases z with ⟨_, rfl⟩ | ⟨_, _, rfl⟩ <;> rcases k with ⟨_, k⟩ | ⟨_, _, _, k⟩ | ⟨_, k⟩ <;> cases k
theorem Wb.mut_some (w : Wb G H st) {a : Addr} (h : G.mut a) : ∃ o, H a = some o := by
  rcases h with h | h
  · have c := w.cn
    cases q : st.cnt with
    | none =>
      rw [q] at c
      simp only at c
      rw [h] at c
      cases c
    | some n =>
      rw [q] at c
      obtain ⟨b, h1, h2⟩ := c
      rw [h] at h1
      cases h1
      exact ⟨_, h2⟩
  · rcases w.om a h with ⟨vs, q⟩ | ⟨C, dx, fs, q⟩ | ⟨φ, q⟩ <;> exact ⟨_, q⟩
theorem Wb.not_mut_tup (w : Wb G H st) {a : Addr} {o : HO} (h : H a = some o) (no : Tfz o) : ¬ G.mut a := fun m => w.mut_sh m h no
theorem Le.refl : Le G G H := ⟨fun _ h => h, fun _ h => .inl h, fun _ h => h, fun _ h => .inl h, fun _ h => h, rfl, OoLe.refl⟩
theorem Keep.refl : Keep G H H := fun _ _ _ h => h
theorem KeepL.refl : KeepL G H H := fun _ _ _ h => h
theorem Keep.l (k : Keep G H H') (w : Wb G H st) : KeepL G H H' := fun p o h e => k p o (h.elim (w.lm p) fun z => w.not_mut_tup e z) e
/-- what was tracked is tracked -/
theorem Keep.dom (k : Keep G H H') (w : Wr G H st) (l : Le G G' H) (w' : Wr G' H' st1) {p : Addr} (h : H' p = none) : H p = none := by
  cases e : H p with
  | none => rfl
  | some o =>
    by_cases m : G.mut p
    · obtain ⟨vs, e'⟩ := w'.mut_some (l.m p m)
      rw [h] at e'
      cases e'
    · rw [k p o m e] at h
      cases h
theorem After.refl (w : Wr G H st) : After G H st G H := ⟨Le.refl, Keep.refl, w⟩
theorem After.trans (w : Wr G H st) (a : After G H st1 G1 H1) (b : After G1 H1 st2 G2 H2) : After G H st2 G2 H2 := by
  refine ⟨⟨fun p h => b.le.l p (a.le.l p h), fun p h => ?_, fun p h => b.le.m p (a.le.m p h), fun p h => ?_, fun p h => b.le.c p (a.le.c p h), b.le.k.trans a.le.k, a.le.o.trans b.le.o⟩, fun p o m h => ?_, b.wr⟩
  · rcases b.le.ln p h with h1 | h1
    · exact a.le.ln p h1
    · exact .inr (a.keep.dom w a.le a.wr h1)
  · rcases b.le.mn p h with h1 | h1
    · exact a.le.mn p h1
    · exact .inr (a.keep.dom w a.le a.wr h1)
  · refine b.keep p o (fun m1 => ?_) (a.keep p o m h)
    rcases a.le.mn p m1 with m2 | m2
    · exact m m2
    · rw [m2] at h
      cases h
theorem sqT_keepL (k : KeepL G H H') {p : Addr} {vs : List V} (h : SqT K H p vs) : SqT K H' p vs := by
  rcases h with (h | ⟨o, h⟩) | h
  · exact .inl (.inl (k _ _ (.inr (.inl ⟨_, rfl⟩)) h))
  · exact .inl (.inr ⟨o, k _ _ (.inr (.inr ⟨_, _, rfl⟩)) h⟩)
  · exact .inr h
theorem sqT_keep (w : Wr G H st) (k : Keep G H H') {p : Addr} {vs : List V} (h : SqT K H p vs) : SqT K H' p vs := sqT_keepL (k.l w.toWb) h
theorem sqL_keep (k : Keep G H H') {p : Addr} {vs : List V} (m : ¬ G.mut p) (h : SqL K H p vs) : SqL K H' p vs := by
  rcases h with (h | ⟨o, h⟩) | h
  · exact .inl (.inl (k _ _ m h))
  · exact .inl (.inr ⟨o, k _ _ m h⟩)
  · exact .inr h
mutual
theorem Rep.gr (g : Gr G G') (k : KeepL G H H') {v : V} {x : PV} : Rep K G H v x → Rep K G' H' v x
  | .non => .non
  | .bl b => .bl b
  | .int i => .int i
  | .str s => .str s
  | .tup h r => .tup (sqT_keepL k h) (Reps.gr g k r)
  | .lst h1 h2 r => .lst (g.l _ h1) (k _ _ (.inl h1) h2) (Reps.gr g k r)
  | .scr h => .scr (h.elim (fun z => .inl ⟨g.l _ z.1, z.2.elim (fun e => .inl (k _ _ (.inl z.1) e)) fun ⟨o, e⟩ => .inr ⟨o, k _ _ (.inl z.1) e⟩⟩) .inr)
  | .cnt h => .cnt (g.c _ h)
  | .obj h1 h2 h3 => by
    obtain ⟨o', e, ea, _⟩ := g.o _ _ h2
    exact .obj (g.k.trans h1) e (ea.trans h3)
theorem Reps.gr (g : Gr G G') (k : KeepL G H H') {vs : List V} {xs : List PV} : Reps K G H vs xs → Reps K G' H' vs xs
  | .nil => .nil
  | .cons h r => .cons (Rep.gr g k h) (Reps.gr g k r)
end
theorem FReps.gr (g : Gr G G') (k : KeepL G H H') (ko : ∀ p o, G.om p → H p = some o → H' p = some o) (om : ∀ p, G.om p → G'.om p) : ∀ {vs : List V} {ws : List (Option (List V))} {xs : List PV}, FReps G H vs ws xs → FReps G' H' vs ws xs
  | _, _, _, .nil => .nil
  | _, _, _, .val r n b t => .val (by rw [g.k]; exact r.gr g k) n b (FReps.gr g k ko om t)
  | _, _, _, .lst m e r b t => .lst (om _ m) (ko _ _ m e) (by rw [g.k]; exact r.gr g k) b (FReps.gr g k ko om t)
theorem EReps.gr (g : Gr G G') (k : KeepL G H H') : ∀ {es : List (NestedKey × Addr × V)} {ps : List (PV × PV)}, EReps G H es ps → EReps G' H' es ps
  | _, _, .nil => .nil
  | _, _, .cons r n d s b t => .cons (by rw [g.k]; exact r.gr g k) n d (by rw [g.k]; exact s.gr g k) b (EReps.gr g k t)
theorem OOk.gr (g : Gr G G') (k : KeepL G H H') (ko : ∀ p o, G.om p → H p = some o → H' p = some o) (om : ∀ p, G.om p → G'.om p) {o : OG} {ov : OV} (h : OOk G H o ov) : OOk G' H' o ov := by
  obtain ⟨h1, h2, h3, h4⟩ := h
  refine ⟨h1, h2, om _ h3, ?_⟩
  split at h4
  · rename_i hc
    rw [if_pos hc]
    obtain ⟨a, b, c⟩ := h4
    exact ⟨a, by rw [g.k]; exact ko _ _ h3 b, c.gr g k⟩
  · rename_i hc
    rw [if_neg hc]
    obtain ⟨a, b, c⟩ := h4
    exact ⟨by rw [g.k]; exact ko _ _ h3 a, b, c.gr g k ko om⟩
/-- the objects stand as they did -/
theorem Wr.keep (w : Wr G H st) (b : Wb G' H' st) (g : Gr G G') (eo : G'.oo = G.oo) (k : KeepL G H H') (ko : ∀ p o, G.om p → H p = some o → H' p = some o) (om : ∀ p, G.om p → G'.om p) : Wr G' H' st :=
  ⟨b, by rw [eo]; exact w.ol, fun j o ov h1 h2 => (w.ob j o ov (by rw [← eo]; exact h1) h2).gr g k ko om, by rw [eo]; exact w.ds, by rw [eo]; exact w.da⟩
theorem Rep.mono (w : Wr G H st) (l : Le G G' H) (k : Keep G H H') {v : V} {x : PV} (r : Rep K G H v x) : Rep K G' H' v x := r.gr l.gr (k.l w.toWb)
theorem Reps.mono (w : Wr G H st) (l : Le G G' H) (k : Keep G H H') {v : List V} {x : List PV} (r : Reps K G H v x) : Reps K G' H' v x := r.gr l.gr (k.l w.toWb)
theorem Le.not_mut (l : Le G G' H) {p : Addr} {o : HO} (h : H p = some o) (m : ¬ G.mut p) : ¬ G'.mut p := fun m' => by
  rcases l.mn p m' with z | z
  · exact m z
  · rw [z] at h
    cases h
theorem Le.not_L (l : Le G G' H) {p : Addr} {o : HO} (h : H p = some o) (m : ¬ G.L p) : ¬ G'.L p := fun m' => by
  rcases l.ln p m' with z | z
  · exact m z
  · rw [z] at h
    cases h
theorem WRep.mono (w : Wr G H st) (l : Le G G' H) (k : Keep G H H') {v : V} {x : PV} (h : WRep K G H v x) : WRep K G' H' v x := by
  cases h with
  | rep r => exact .rep (r.mono w l k)
  | lst m e r => exact .lst (l.not_mut e m) (k _ _ m e) (r.mono w l k)
theorem ResOk.wrep {H₀ : Hp} {v : V} {x : PV} {fr : Bool} (h : ResOk K H₀ G H v x fr) : WRep K G H v x := by
  unfold ResOk at h
  cases fr with
  | false =>
    rw [if_neg Bool.false_ne_true] at h
    exact .rep h
  | true =>
    rw [if_pos rfl] at h
    obtain ⟨p, vs, xs, rfl, rfl, m, _, _, e, r⟩ := h
    exact .lst m e r
/-- frozen -/
theorem After.freeze {v : V} {x : PV} {fr : Bool} (a : After G H st G' H') (h : ResOk K H G' H' v x fr) : ∃ G2, After G H st G2 H' ∧ Rep K G2 H' v x ∧ (∀ p, G'.L p → G2.L p) ∧ G2.ca = G'.ca := by
  unfold ResOk at h
  cases fr with
  | false =>
    rw [if_neg Bool.false_ne_true] at h
    exact ⟨G', a, h, fun _ q => q, rfl⟩
  | true =>
    rw [if_pos rfl] at h
    obtain ⟨p, vs, xs, rfl, rfl, m, nl, hn, e, r⟩ := h
    have g : Gr G' { G' with L := fun q => G'.L q ∨ q = p } := ⟨fun q h => Or.inl h, fun _ h => h, rfl, OoLe.refl⟩
    refine ⟨{ G' with L := fun q => G'.L q ∨ q = p }, ⟨⟨fun q h => .inl (a.le.l q h), fun q h => ?_, a.le.m, a.le.mn, a.le.c, a.le.k, a.le.o⟩, a.keep,
      a.wr.keep ⟨fun q h => ?_, fun q h => ?_, a.wr.cn, a.wr.co, a.wr.om⟩ g rfl KeepL.refl (fun _ _ _ z => z) fun _ z => z⟩, .lst (.inr rfl) e ?_, fun q h => Or.inl h, rfl⟩
    · rcases h with h | h
      · exact a.le.ln q h
      · subst h
        exact .inr hn
    · rcases h with h | h
      · exact a.wr.lm q h
      · subst h
        exact m
    · rcases h with h | h
      · exact a.wr.lt q h
      · subst h
        exact ⟨_, e⟩
    · exact r.gr g KeepL.refl
theorem Reps.length {vs : List V} {xs : List PV} : Reps K G H vs xs → vs.length = xs.length
  | .nil => rfl
  | .cons _ r => congrArg (· + 1) (Reps.length r)
theorem Reps.get {vs : List V} {xs : List PV} : Reps K G H vs xs → ∀ {i : Nat} {x : PV}, xs[i]? = some x → ∃ v, vs[i]? = some v ∧ Rep K G H v x
  | .nil, i, x, h => by simp at h
  | .cons r t, 0, x, h => by
    simp at h
    subst h
    exact ⟨_, rfl, r⟩
  | .cons r t, i + 1, x, h => by
    obtain ⟨v, h1, h2⟩ := t.get (i := i) (x := x) (by simpa using h)
    exact ⟨v, by simpa using h1, h2⟩
theorem Reps.append {vs vs' : List V} {xs xs' : List PV} : Reps K G H vs xs → Reps K G H vs' xs' → Reps K G H (vs ++ vs') (xs ++ xs')
  | .nil, h => h
  | .cons r t, h => .cons r (t.append h)
theorem Reps.take {vs : List V} {xs : List PV} : ∀ (n : Nat), Reps K G H vs xs → Reps K G H (vs.take n) (xs.take n)
  | 0, _ => .nil
  | n + 1, .nil => .nil
  | n + 1, .cons r t => .cons r (t.take n)
theorem Reps.drop {vs : List V} {xs : List PV} : ∀ (n : Nat), Reps K G H vs xs → Reps K G H (vs.drop n) (xs.drop n)
  | 0, h => h
  | n + 1, .nil => .nil
  | n + 1, .cons r t => t.drop n
theorem Reps.set {v : V} {x : PV} (h : Rep K G H v x) {vs : List V} {xs : List PV} : ∀ (n : Nat), Reps K G H vs xs → Reps K G H (vs.set n v) (xs.set n x)
  | _, .nil => .nil
  | 0, .cons r t => .cons h t
  | n + 1, .cons r t => .cons r (t.set h n)
theorem Reps.eraseIdx {vs : List V} {xs : List PV} : ∀ (n : Nat), Reps K G H vs xs → Reps K G H (vs.eraseIdx n) (xs.eraseIdx n)
  | _, .nil => .nil
  | 0, .cons r t => t
  | n + 1, .cons r t => .cons r (t.eraseIdx n)
theorem Reps.reverse {vs : List V} {xs : List PV} (h : Reps K G H vs xs) : Reps K G H vs.reverse xs.reverse := by
  induction vs generalizing xs with
  | nil => cases h; exact .nil
  | cons v vs ih =>
    cases h with
    | cons r t =>
      rw [List.reverse_cons, List.reverse_cons]
      exact (ih t).append (.cons r .nil)
theorem Reps.rep {vs : List V} {xs : List PV} (h : Reps K G H vs xs) : ∀ n : Nat, Reps K G H (List.replicate n vs).flatten (List.replicate n xs).flatten
  | 0 => .nil
  | n + 1 => by
    rw [List.replicate_succ, List.replicate_succ, List.flatten_cons, List.flatten_cons]
    exact h.append (h.rep n)
theorem Reps.intsOf {vs : List V} {xs : List PV} : Reps K G H vs xs → ∀ {is : List Int}, GB.intsOf xs = some is → vs = is.map V.int := by
  intro h
  induction xs generalizing vs with
  | nil =>
    intro is e
    cases h
    cases e
    rfl
  | cons x xs ih =>
    intro is e
    cases h with
    | cons r t =>
      cases x <;> try exact nomatch (show (none : Option (List Int)) = some is from e)
      rename_i i
      have e' : (match GB.intsOf xs with | some is => some (i :: is) | none => none) = some is := e
      cases q : GB.intsOf xs with
      | none => rw [q] at e'; cases e'
      | some js =>
        rw [q] at e'
        cases e'
        cases r
        rw [ih t q]
        rfl
theorem Reps.bools {vs : List V} {xs : List PV} : Reps K G H vs xs → ∀ {is : List Bool}, GB.bools xs = some is → vs = is.map V.bl := by
  intro h
  induction xs generalizing vs with
  | nil =>
    intro is e
    cases h
    cases e
    rfl
  | cons x xs ih =>
    intro is e
    cases h with
    | cons r t =>
      cases x <;> try exact nomatch (show (none : Option (List Bool)) = some is from e)
      rename_i i
      have e' : (match GB.bools xs with | some is => some (i :: is) | none => none) = some is := e
      cases q : GB.bools xs with
      | none => rw [q] at e'; cases e'
      | some js =>
        rw [q] at e'
        cases e'
        cases r
        rw [ih t q]
        rfl
theorem scr_sq {p : Addr} {is : List Int} (h : (G.L p ∧ Rd H p (.lst (is.map V.int))) ∨ SqL K (fun _ => none) p (is.map V.int)) : SqL K H p (is.map V.int) := by
  rcases h with ⟨_, h⟩ | (h | ⟨o, h⟩) | h
  · exact .inl h
  · cases h
  · cases h
  · exact .inr h
/-- data -/
theorem dpAll_ints : ∀ is : List Int, DpAll K H (is.map V.int) (is.map .int)
  | [] => .nil
  | i :: is => .cons (.int i) (dpAll_ints is)
mutual
theorem Rep.dp {v : V} {x : PV} : Rep K G H v x → ∀ {d : PyData}, x.toD = some d → Dp K H v d
  | .non, d, e => by cases e; exact .non
  | .bl b, d, e => by cases e; exact .bl b
  | .int i, d, e => by cases e; exact .int i
  | .str s, d, e => by cases e; exact .str s
  | .tup (xs := xs) h r, d, e => by
    unfold PV.toD at e
    cases q : PV.toDs xs with
    | none => rw [q] at e; cases e
    | some ds => rw [q] at e; cases e; exact .tup h (r.dp q)
  | .lst (xs := xs) h1 h2 r, d, e => by
    unfold PV.toD at e
    cases q : PV.toDs xs with
    | none => rw [q] at e; cases e
    | some ds => rw [q] at e; cases e; exact .lst (.inl (.inl h2)) (r.dp q)
  | .scr (is := is) h, d, e => by
    unfold PV.toD at e
    cases e
    exact .lst (scr_sq h) (dpAll_ints is)
  | .cnt h, d, e => by cases e
  | .obj _ _ _, d, e => by cases e
theorem Reps.dp {vs : List V} {xs : List PV} : Reps K G H vs xs → ∀ {ds : List PyData}, PV.toDs xs = some ds → DpAll K H vs ds
  | .nil, ds, e => by cases e; exact .nil
  | .cons (x := x) (xs := xs) h r, ds, e => by
    unfold PV.toDs at e
    cases q : x.toD with
    | none => rw [q] at e; cases e
    | some d =>
      cases q2 : PV.toDs xs with
      | none => rw [q, q2] at e; cases e
      | some ds => rw [q, q2] at e; cases e; exact .cons (h.dp q) (r.dp q2)
end
theorem WRep.dp {v : V} {x : PV} {d : PyData} (h : WRep K G H v x) (e : x.toD = some d) : Dp K H v d := by
  cases h with
  | rep r => exact r.dp e
  | @lst p vs xs m h2 r =>
    unfold PV.toD at e
    cases q : PV.toDs xs with
    | none => rw [q] at e; cases e
    | some ds => rw [q] at e; cases e; exact .lst (.inl (.inl h2)) (r.dp q)
end
end GB

/-! GOps: the operators of plain values are those of the layer. -/
namespace GB
open PySem PySem.Spec PyProof.Rows L2

section
variable {K : KX} {G G' : Gh} {H H' : Hp} {st : S}
/-- behind an operator that keeps the state -/
def PostV (K : KX) (G : Gh) (H : Hp) (z : PV) (fr : Bool) (Q : VK) : Prop :=
  ∀ G' H' v, Le G G' H → Keep G H H' → (∀ st, Wr G H st → Wr G' H' st) → ResOk K H G' H' v z fr → Q v H'
theorem PostV.val {z : PV} {Q : VK} (h : PostV K G H z false Q) {v : V} (r : Rep K G H v z) : Q v H :=
  h G H v Le.refl Keep.refl (fun _ w => w) (by unfold ResOk; rw [if_neg Bool.false_ne_true]; exact r)
theorem keep_upd {p : Addr} {o : HO} (h : H p = none) : Keep G H (upd H p o) := fun q u _ e => by
  rw [upd_ne (ne_of_none e h)]
  exact e
theorem Wr.upd_new {p : Addr} {o : HO} (h : H p = none) (st : S) (w : Wr G H st) : Wr G (upd H p o) st := by
  have kk : ∀ q u, H q = some u → upd H p o q = some u := fun q u e => by rw [upd_ne (ne_of_none e h)]; exact e
  refine w.keep ⟨w.lm, fun q hq => ?_, ?_, w.co, fun q hq => ?_⟩ Gr.refl rfl (fun q u _ e => kk q u e) (fun q u _ e => kk q u e) fun _ z => z
  · obtain ⟨u, e⟩ := w.lt q hq
    exact ⟨u, kk _ _ e⟩
  · have c := w.cn
    cases e : st.cnt with
    | none => rw [e] at c; exact c
    | some n =>
      rw [e] at c
      obtain ⟨a, h1, h2⟩ := c
      exact ⟨a, h1, kk _ _ h2⟩
  · rcases w.om q hq with ⟨a, e⟩ | ⟨a, b, c, e⟩ | ⟨a, e⟩
    · exact .inl ⟨a, kk _ _ e⟩
    · exact .inr (.inl ⟨a, b, c, kk _ _ e⟩)
    · exact .inr (.inr ⟨a, kk _ _ e⟩)
theorem Wr.fresh_L {p : Addr} (w : Wr G H st) (h : H p = none) : ¬ G.L p := fun l => by
  obtain ⟨o, e⟩ := w.lt p l
  rw [h] at e
  cases e
theorem PostV.tup {xs : List PV} {vs : List V} {Q : VK} (h : PostV K G H (.tup xs) false Q) (w : Wr G H st) (r : Reps K G H vs xs) {p : Addr} (hp : H p = none) : Q (.ref p) (upd H p (.tup vs)) :=
  h G _ _ Le.refl (keep_upd hp) (fun s' w' => w'.upd_new hp s') (by
    unfold ResOk
    rw [if_neg Bool.false_ne_true]
    exact .tup (SqT.of upd_same) (r.mono w Le.refl (keep_upd hp)))
theorem PostV.lst {xs : List PV} {vs : List V} {Q : VK} (h : PostV K G H (.lst xs) true Q) (w : Wr G H st) (r : Reps K G H vs xs) {p : Addr} (hp : H p = none) : Q (.ref p) (upd H p (.lst vs)) := by
  refine h G _ _ Le.refl (keep_upd hp) (fun s' w' => w'.upd_new hp s') ?_
  unfold ResOk
  rw [if_pos rfl]
  refine ⟨p, vs, xs, rfl, rfl, fun m => ?_, fun l => ?_, hp, upd_same, r.mono w Le.refl (keep_upd hp)⟩
  · obtain ⟨_, e⟩ := w.mut_some m
    rw [hp] at e
    cases e
  · exact w.fresh_L hp l
theorem WRep.int {v : V} {i : Int} (h : WRep K G H v (.int i)) : v = .int i := by
  cases h with
  | rep r => cases r; rfl
theorem WRep.bl {v : V} {i : Bool} (h : WRep K G H v (.bl i)) : v = .bl i := by
  cases h with
  | rep r => cases r; rfl
theorem WRep.str {v : V} {i : Str} (h : WRep K G H v (.str i)) : v = .str i := by
  cases h with
  | rep r => cases r; rfl
theorem WRep.non {v : V} (h : WRep K G H v .non) : v = .non := by
  cases h with
  | rep r => cases r; rfl
theorem WRep.tup {v : V} {xs : List PV} (h : WRep K G H v (.tup xs)) : ∃ p vs, v = .ref p ∧ SqT K H p vs ∧ Reps K G H vs xs := by
  cases h with
  | rep r => cases r with | tup a b => exact ⟨_, _, rfl, a, b⟩
theorem WRep.lst' {v : V} {xs : List PV} (h : WRep K G H v (.lst xs)) (w : Wr G H st) : ∃ p vs, v = .ref p ∧ H p = some (.lst vs) ∧ ¬ G.mut p ∧ Reps K G H vs xs := by
  cases h with
  | rep r => cases r with | lst a b c => exact ⟨_, _, rfl, b, w.lm _ a, c⟩
  | lst a b c => exact ⟨_, _, rfl, b, a, c⟩
theorem WRep.scr {v : V} {is : List Int} (h : WRep K G H v (.scr is)) : ∃ p, v = .ref p ∧ SqL K H p (is.map V.int) := by
  cases h with
  | rep r => cases r with | scr a => exact ⟨_, rfl, scr_sq a⟩
theorem lim_line {n : Nat} (h : n ≤ lim) : n < sizeLine := Nat.lt_of_le_of_lt h (by rw [sizeLine_eq]; decide)
end
/-- t * k, all k -/
theorem mul_same (l : Addr) (items : Array Value) (n : Nat) (dd : Option Addr) (sl : Array (Option Value)) (x : Int) (u : Tok) (c0 : (decide (x < -(2 ^ 63)) || decide (x ≥ 2 ^ 63)) = false) (c1 : (items.isEmpty || x == 1) = true) :
    Meets (Builtin.«tuple.__mul__» ⟨[.ref l, .int x u], []⟩) (fun _ R s => s.heap.get? l = some { cls := .type "tuple", dict := dd, data := .seq items n, slots := sl } ∧ R (.ok (.ret (Value.ref l))) s) :=
  .of_wp fun prog w A R s h => by
    obtain ⟨hp, g, d, tk, os⟩ := s
    obtain ⟨hl, h⟩ := h
    have f1 := AutoSeq1.idx_int
    wp_walk using wpAny_loadPart' hl
    repeat (first
      | (refine wpAny_ite_false (decide_eq_false fun z => Bool.false_ne_true (c0.symm.trans z)) ?_; wp_walk using wpAny_loadPart' hl)
      | (refine wpAny_ite_true (decide_eq_true c1) ?_; wp_walk using wpAny_loadPart' hl))
    exact ⟨_, rfl, h⟩
theorem mul_none (l : Addr) (items : Array Value) (n : Nat) (dd : Option Addr) (sl : Array (Option Value)) (x : Int) (u : Tok) (c0 : (decide (x < -(2 ^ 63)) || decide (x ≥ 2 ^ 63)) = false) (c1 : (items.isEmpty || x == 1) = false) (c2 : (decide (x ≤ 0) || items.isEmpty) = true) :
    Meets (Builtin.«tuple.__mul__» ⟨[.ref l, .int x u], []⟩) (fun _ R s => s.heap.get? l = some { cls := .type "tuple", dict := dd, data := .seq items n, slots := sl } ∧
      R (.ok (.ret (Value.ref s.heap.objs.size))) { s with heap := s.heap.push { cls := Value.type "tuple", data := Data.seq #[] }, toks := s.toks }) :=
  .of_wp fun prog w A R s h => by
    obtain ⟨hp, g, d, tk, os⟩ := s
    obtain ⟨hl, h⟩ := h
    have f1 := AutoSeq1.idx_int
    wp_walk using wpAny_loadPart' hl
    repeat (first
      | (refine wpAny_ite_false (decide_eq_false fun z => Bool.false_ne_true (c0.symm.trans z)) ?_; wp_walk using wpAny_loadPart' hl)
      | (refine wpAny_ite_false (decide_eq_false fun z => Bool.false_ne_true (c1.symm.trans z)) ?_; wp_walk using wpAny_loadPart' hl)
      | (refine wpAny_ite_true (decide_eq_true c2) ?_; wp_walk using wpAny_loadPart' hl))
    exact ⟨_, rfl, h⟩
section
variable {X : Cx}
def rMulT (K : PySem.W.Frag) : R2 := fun x y H Q => ∃ l k xs, x = .ref l ∧ y = .int k ∧ L2.SqT K H l xs ∧ -1000000 ≤ k ∧ k ≤ 1000 ∧ xs.length ≤ 1000 ∧ ((xs = [] ∨ k = 1) → Q (.ref l) H) ∧
  (∀ p, H p = none → Q (.ref p) (upd H p (.tup (rep k xs))))
theorem op_mulT : OpR X (binaryOp .Mult) (rMulT X.K) := by
  intro pins s σ H x y v u Q I rx ry h
  obtain ⟨l, k, xs, rfl, rfl, hT, h1, h2, hz, q1, q2⟩ := h
  by_cases hs : xs = [] ∨ k = 1
  · cases rx
    obtain ⟨t, rfl⟩ := ry
    obtain ⟨its, r, ⟨⟨cls, dd, data, sl⟩, ho, hc, n, hd⟩, hs'⟩ := I.tuple hT
    simp only at hc hd
    subst hc hd
    refine wpAny_binaryOp_repeat_ref (T := "tuple") (U := "int") (by decide) ⟨_, ho, rfl⟩ (fun s' => typeIs_int s' k t) noFill_tuple_mul F.fills_int_mul F.slot_int_rmul repeat_tuple F.slot_int_index.lookup
      (call_meets F.slot_int_rmul (typeIs_int s k t) F.entry_int_rmul (F.args_int_rmul_2 _ _) (int_rmul_tuple k t l its.toArray n dd sl)
        ⟨ho, rfl, ⟨_, ho, rfl⟩, call_meets F.slot_tuple_mul ⟨_, ho, rfl⟩ F.entry_tuple_mul (F.args_tuple_mul_2 _ _) (mul_same l its.toArray n dd sl k t ?_ ?_) ⟨ho, .ref l, H, I, rfl, q1 hs⟩⟩)
    · rw [decide_eq_false (by omega), decide_eq_false (by omega)] <;> rfl
    · rcases hs with e | e
      · subst e
        cases r
        rfl
      · subst e
        rw [Bool.or_eq_true]
        exact .inr rfl
  · have hne : xs ≠ [] := fun e => hs (.inl e)
    have h1k : k ≠ 1 := fun e => hs (.inr e)
    by_cases h2k : 2 ≤ k
    · exact op_repT pins s σ H _ _ v u Q I rx ry ⟨l, k, xs, rfl, rfl, hT, hne, h2k, h2, hz, q2⟩
    · have hk : k ≤ 0 := by omega
      cases rx
      obtain ⟨t, rfl⟩ := ry
      obtain ⟨its, r, ⟨⟨cls, dd, data, sl⟩, ho, hc, n, hd⟩, hs'⟩ := I.tuple hT
      simp only at hc hd
      subst hc hd
      have hi : its.toArray.isEmpty = false := by
        cases its with
        | nil => cases r; exact absurd rfl hne
        | cons a b => rfl
      refine wpAny_binaryOp_repeat_ref (T := "tuple") (U := "int") (by decide) ⟨_, ho, rfl⟩ (fun s' => typeIs_int s' k t) noFill_tuple_mul F.fills_int_mul F.slot_int_rmul repeat_tuple F.slot_int_index.lookup
        (call_meets F.slot_int_rmul (typeIs_int s k t) F.entry_int_rmul (F.args_int_rmul_2 _ _) (int_rmul_tuple k t l its.toArray n dd sl)
          ⟨ho, rfl, ⟨_, ho, rfl⟩, call_meets F.slot_tuple_mul ⟨_, ho, rfl⟩ F.entry_tuple_mul (F.args_tuple_mul_2 _ _) (mul_none l its.toArray n dd sl k t ?_ ?_ ?_) ⟨ho, ?_⟩⟩)
      · rw [decide_eq_false (by omega), decide_eq_false (by omega)] <;> rfl
      · rw [hi, Bool.false_or]
        exact beq_eq_false_iff_ne.mpr h1k
      · rw [decide_eq_true hk]
        rfl
      · have e0 : rep k xs = [] := by
          unfold rep
          rw [Int.toNat_of_nonpos hk]
          rfl
        have q3 := q2 s.heap.objs.size (I.hok.fresh (Nat.le_refl _))
        rw [e0] at q3
        refine ⟨.ref s.heap.objs.size, _, I.laid (t' := s.toks) (o := .tup []) (fun b ob q => Heap.get?_push_of_some _ q) (Nat.le_refl _) ?_, rfl, q3⟩
        exact ⟨Nat.zero_le _, [], .nil, IsTup.new _ _⟩

def opOf : BOp → Operator
  | .add => .Add | .sub => .Sub | .mul => .Mult | .fdiv => .FloorDiv | .mod => .Mod | .pow => .Pow
def rBin (K : KX) (op : BOp) : R2 := fun x y H Q => ∃ G st px py z fr, Wr G H st ∧ WRep K G H x px ∧ WRep K G H y py ∧ binop op px py = some (z, fr) ∧ PostV K G H z fr Q
theorem two_wide {j : Int} (h : 0 < j) (h2 : j.natAbs < big) : CDivW 0 j := wide_div (b := 8000) h h2 (by decide) (by decide)
theorem op_bin (op : BOp) : OpR X (binaryOp (opOf op)) (rBin X.kx op) := by
  intro pins s σ H x y v u Q I rx ry h
  obtain ⟨G, st, px, py, z, fr, w, wx, wy, e, q⟩ := h
  unfold binop at e
  split at e
  · rename_i i j
    cases e
    rw [wx.int] at rx; rw [wy.int] at ry
    exact op_add pins s σ H _ _ v u Q I rx ry ⟨i, j, rfl, rfl, q.val (.int _)⟩
  · rename_i a b
    split at e
    · rename_i hl
      cases e
      obtain ⟨p, vs, rfl, hs, r1⟩ := wx.tup
      obtain ⟨p2, vs2, rfl, hs2, r2⟩ := wy.tup
      refine op_catA pins s σ H _ _ v u Q I rx ry ⟨p, p2, vs, vs2, rfl, rfl, hs, hs2, ?_, fun e => ?_, fun _ e => ?_, fun _ _ p' hp => q.tup w (r1.append r2) hp⟩
      · rw [r1.length, r2.length]
        exact Nat.le_of_lt (lim_line hl)
      · subst e
        cases r1
        exact q.val (.tup hs2 r2)
      · subst e
        cases r2
        rw [List.append_nil] at q
        exact q.val (.tup hs r1)
    · cases e
  · rename_i a b
    split at e
    · rename_i hl
      cases e
      obtain ⟨p, vs, rfl, hs, _, r1⟩ := wx.lst' w
      obtain ⟨p2, vs2, rfl, hs2, _, r2⟩ := wy.lst' w
      refine op_cat pins s σ H _ _ v u Q I rx ry ⟨p, p2, vs, vs2, rfl, rfl, hs, hs2, ?_, fun p' hp => q.lst w (r1.append r2) hp⟩
      rw [r1.length, r2.length]
      exact Nat.le_of_lt (lim_line hl)
    · cases e
  · rename_i a b
    split at e
    · rename_i hl
      cases e
      rw [wx.str] at rx; rw [wy.str] at ry
      exact op_add_str pins s σ H _ _ v u Q I rx ry ⟨a, b, rfl, rfl, Nat.le_of_lt (lim_line hl), q.val (.str _)⟩
    · cases e
  · rename_i i j
    cases e
    rw [wx.int] at rx; rw [wy.int] at ry
    exact op_sub pins s σ H _ _ v u Q I rx ry ⟨i, j, rfl, rfl, q.val (.int _)⟩
  · rename_i i j
    split at e
    · rename_i hm
      cases e
      rw [wx.int] at rx; rw [wy.int] at ry
      unfold mulOk at hm
      rw [Bool.or_eq_true, Bool.or_eq_true, Bool.and_eq_true] at hm
      rcases hm with (h | h) | ⟨h, h'⟩
      · have h := of_decide_eq_true h
        exact op_mul pins s σ H _ _ v u Q I rx ry ⟨i, j, rfl, rfl, .inl ⟨by omega, by omega⟩, q.val (.int _)⟩
      · have h := of_decide_eq_true h
        exact op_mul pins s σ H _ _ v u Q I rx ry ⟨i, j, rfl, rfl, .inr ⟨by omega, by omega⟩, q.val (.int _)⟩
      · have h := of_decide_eq_true h
        have h' := of_decide_eq_true h'
        exact op_mulW pins s σ H _ _ v u Q I rx ry ⟨i, j, rfl, rfl, wide_mul (a := 8000) (b := 8000) h h' (by decide) (by decide) (by decide), q.val (.int _)⟩
    · cases e
  · rename_i a k
    split at e
    · rename_i hm
      cases e
      obtain ⟨p, vs, rfl, hs, r1⟩ := wx.tup
      rw [wy.int] at ry
      unfold repOk at hm
      rw [Bool.and_eq_true, Bool.and_eq_true] at hm
      obtain ⟨⟨h1, h2⟩, h3⟩ := hm
      have h1 := of_decide_eq_true h1
      have h2 := of_decide_eq_true h2
      have h3 := of_decide_eq_true h3
      refine op_mulT pins s σ H _ _ v u Q I rx ry ⟨p, k, vs, rfl, rfl, hs, h1, h2, by rw [r1.length]; exact h3, fun e => ?_, fun p' hp => q.tup w (r1.rep k.toNat) hp⟩
      rcases e with e | e
      · subst e
        cases r1
        have e0 : rep k ([] : List PV) = [] := by unfold rep; simp
        rw [e0] at q
        exact q.val (.tup hs .nil)
      · subst e
        have e0 : rep 1 a = a := by unfold rep; simp
        rw [e0] at q
        exact q.val (.tup hs r1)
    · cases e
  · rename_i a k
    split at e
    · rename_i hm
      cases e
      obtain ⟨p, vs, rfl, hs, _, r1⟩ := wx.lst' w
      rw [wy.int] at ry
      unfold repOk at hm
      rw [Bool.and_eq_true, Bool.and_eq_true] at hm
      obtain ⟨⟨h1, h2⟩, h3⟩ := hm
      have h1 := of_decide_eq_true h1
      have h2 := of_decide_eq_true h2
      have h3 := of_decide_eq_true h3
      refine op_rep pins s σ H _ _ v u Q I rx ry ⟨p, k, vs, rfl, rfl, hs, by omega, by omega, ?_, fun p' hp => q.lst w (r1.rep k.toNat) hp⟩
      rw [r1.length, sizeLine_eq]
      have : a.length * k.toNat ≤ 1000 * 1000 := Nat.mul_le_mul h3 (by omega)
      omega
    · cases e
  · rename_i i j
    split at e
    · rename_i hm
      cases e
      rw [wx.int] at rx; rw [wy.int] at ry
      exact op_fdivW pins s σ H _ _ v u Q I rx ry ⟨i, j, rfl, rfl, two_wide hm.1 hm.2, q.val (.int _)⟩
    · cases e
  · rename_i i j
    split at e
    · rename_i hm
      cases e
      rw [wx.int] at rx; rw [wy.int] at ry
      exact op_mod pins s σ H _ _ v u Q I rx ry ⟨i, j, rfl, rfl, hm, q.val (.int _)⟩
    · cases e
  · rename_i i j
    split at e
    · rename_i hm
      cases e
      rw [wx.int] at rx; rw [wy.int] at ry
      exact op_pow pins s σ H _ _ v u Q I rx ry ⟨i, j, rfl, rfl, ⟨hm.1, by omega, by omega⟩, q.val (.int _)⟩
    · cases e
  · cases e
end
end GB

/-! GCmp: comparisons of plain values. -/
namespace GB
open PySem PySem.Spec PyProof.Rows L2
section
variable {X : Cx}
def copOf : COp → CmpOp
  | .eq => .Eq | .ne => .NotEq | .lt => .Lt | .le => .LtE | .gt => .Gt | .ge => .GtE | .is => .Is | .isnot => .IsNot | .isin => .In | .notin => .NotIn
def rCmp (K : KX) (op : COp) : R2 := fun x y H Q => ∃ G st px py c, Wr G H st ∧ WRep K G H x px ∧ WRep K G H y py ∧ cmpop op px py = some c ∧ Q (.bl c) H
theorem room_of {A : Around} {d : PyData} (h : SeqAt.shaped d = true) (hu : A.units + 130 < cLine) : A.units + 1 + d.depth < cLine := by
  have h1 := SeqAt.depth_of_shaped h
  omega
theorem op_ltD (hu : X.A.units + 130 < cLine) : OpR X (compareOp .Lt) (fun x y H Q => ∃ d e, L2.Dp X.K H x d ∧ L2.Dp X.K H y e ∧ W.alike d e = true ∧ d ≠ .none ∧ d.depth ≤ 64 ∧ Q (.bl (W.dataLt d e)) H) := by
  intro pins s σ H x y v u Q I rx ry h
  obtain ⟨d, e, hd, he, ha, hn, hz, q⟩ := h
  obtain ⟨as, r1⟩ := Dp.reads I d x v hd rx
  obtain ⟨bs, r2⟩ := Dp.reads I e y u he ry
  show wpAny _ _ (richCompare .Lt v u) _ _ _
  refine W.rcLt_alike d e X.A s v u as bs r1 r2 ha hn ?_ _ _ _ _ ⟨.bl _, H, I, rfl, q⟩
  have : min d.depth e.depth ≤ d.depth := Nat.min_le_left _ _
  omega
theorem op_inTD (hu : X.A.units + 130 < cLine) (neg : Bool) : OpR X (compareOp (if neg then .NotIn else .In)) (fun x y H Q => ∃ d ds, L2.Dp X.K H x d ∧ (L2.Dp X.K H y (.tuple ds) ∨ L2.Dp X.K H y (.list ds)) ∧ SeqAt.shaped d = true ∧ PyData.canLayAll0 ds = true ∧ Q (.bl (if neg then !(ds.any fun z => PyData.eqv z d) else ds.any fun z => PyData.eqv z d)) H) := by
  intro pins s σ H x y v u Q I rx ry h
  obtain ⟨d, ds, hd, he, sd, se, q⟩ := h
  obtain ⟨as, r1⟩ := Dp.reads I d x v hd rx
  have hm : X.A.units + 1 + min (PyData.depthAll ds) d.depth < cLine := Nat.lt_of_le_of_lt (Nat.add_le_add_left (Nat.min_le_right _ _) _) (room_of sd hu)
  rcases he with he | he
  · obtain ⟨bs, r2⟩ := Dp.reads I (.tuple ds) y u he ry
    cases neg
    · exact SeqAt.in_tuple_reads r2 r1 se (SeqAt.canLay_of_shaped sd) hm ⟨.bl _, H, I, rfl, q⟩
    · exact SeqAt.notIn_tuple_reads r2 r1 se (SeqAt.canLay_of_shaped sd) hm ⟨.bl _, H, I, rfl, q⟩
  · obtain ⟨bs, r2⟩ := Dp.reads I (.list ds) y u he ry
    cases neg
    · exact SeqAt.in_list_reads r2 r1 se (SeqAt.canLay_of_shaped sd) hm ⟨.bl _, H, I, rfl, q⟩
    · exact SeqAt.notIn_list_reads r2 r1 se (SeqAt.canLay_of_shaped sd) hm ⟨.bl _, H, I, rfl, q⟩
theorem eq?_shape {x y : PV} {c : Bool} (h : x.eq? y = some c) : ∃ d e, x.toD = some d ∧ y.toD = some e ∧ SeqAt.shaped d = true ∧ SeqAt.shaped e = true ∧ c = PyData.eqv d e := by
  unfold PV.eq? at h
  split at h
  · rename_i d e h1 h2
    split at h
    · rename_i hs
      rw [Bool.and_eq_true] at hs
      cases h
      exact ⟨d, e, h1, h2, hs.1, hs.2, rfl⟩
    · cases h
  · cases h
theorem onot_some {o : Option Bool} {c : Bool} (h : onot o = some c) : o = some (!c) := by
  cases o with
  | none => cases h
  | some b => cases h; cases b <;> rfl
/-- None or a bool -/
theorem is?_shape {x y : PV} {c : Bool} (h : x.is? y = some c) : (y = .non ∧ ((x = .non ∧ c = true) ∨ (x ≠ .non ∧ c = false))) ∨ ∃ a b, x = .bl a ∧ y = .bl b ∧ c = (a == b) := by
  unfold PV.is? at h
  split at h
  · refine .inl ⟨rfl, ?_⟩
    split at h
    · cases h; exact .inl ⟨rfl, rfl⟩
    · rename_i hx
      cases h
      exact .inr ⟨hx, rfl⟩
  · split at h
    · cases h; exact .inr ⟨_, _, rfl, rfl, rfl⟩
    · cases h
  · cases h
theorem WRep.not_non {K : KX} {G : Gh} {H : Hp} {v : V} {x : PV} (h : WRep K G H v x) (n : x ≠ .non) : v ≠ .non := fun e => by
  subst e
  cases h with
  | rep r => cases r; exact n rfl
theorem in?_shape {x y : PV} {c : Bool} (h : x.in? y = some c) : (∃ s t, x = .str s ∧ y = .str t ∧ c = !(Builtin.Str.occurrences t s 0 t.length 1).isEmpty) ∨
    ∃ d ds, x.toD = some d ∧ (y.toD = some (.list ds) ∨ y.toD = some (.tuple ds)) ∧ SeqAt.shaped d = true ∧ PyData.canLayAll0 ds = true ∧ c = ds.any fun z => PyData.eqv z d := by
  unfold PV.in? at h
  split at h
  · rename_i ys
    split at h
    · rename_i d ds h1 h2
      split at h
      · rename_i hs
        rw [Bool.and_eq_true] at hs
        cases h
        exact .inr ⟨d, ds, h1, .inl (by unfold PV.toD; rw [h2]), hs.1, by have z := SeqAt.canLay_of_shaped hs.2; exact z, rfl⟩
      · cases h
    · cases h
  · rename_i ys
    split at h
    · rename_i d ds h1 h2
      split at h
      · rename_i hs
        rw [Bool.and_eq_true] at hs
        cases h
        exact .inr ⟨d, ds, h1, .inr (by unfold PV.toD; rw [h2]), hs.1, by have z := SeqAt.canLay_of_shaped hs.2; exact z, rfl⟩
      · cases h
    · cases h
  · split at h
    · cases h
      exact .inl ⟨_, _, rfl, rfl, rfl⟩
    · cases h
  · cases h
theorem lt?_shape {x y : PV} {c : Bool} (h : x.lt? y = some c) : (∃ i j, x = .int i ∧ y = .int j ∧ c = decide (i < j)) ∨
    ∃ d e, x.toD = some d ∧ y.toD = some e ∧ W.alike d e = true ∧ d ≠ .none ∧ d.depth ≤ 64 ∧ c = W.dataLt d e := by
  unfold PV.lt? at h
  split at h
  · cases h; exact .inl ⟨_, _, rfl, rfl, rfl⟩
  · rename_i a b
    split at h
    · rename_i d e h1 h2
      split at h
      · rename_i hs
        rw [Bool.and_eq_true] at hs
        cases h
        exact .inr ⟨.tuple d, .tuple e, by unfold PV.toD; rw [h1], by unfold PV.toD; rw [h2], hs.1, (fun z => by cases z), of_decide_eq_true hs.2, rfl⟩
      · cases h
    · cases h
  · cases h
theorem op_cmp (hu : X.A.units + 130 < cLine) (op : COp) : OpR X (compareOp (copOf op)) (rCmp X.kx op) := by
  intro pins s σ H x y v u Q I rx ry h
  obtain ⟨G, st, px, py, c, w, wx, wy, e, q⟩ := h
  unfold cmpop at e
  split at e
  · obtain ⟨d, e', h1, h2, s1, s2, rfl⟩ := eq?_shape e
    exact op_eqD (by omega) pins s σ H x y v u Q I rx ry ⟨d, e', wx.dp h1, wy.dp h2, s1, s2, q⟩
  · have e := onot_some e
    obtain ⟨d, e', h1, h2, s1, s2, h3⟩ := eq?_shape e
    refine op_neD (by omega) pins s σ H x y v u Q I rx ry ⟨d, e', wx.dp h1, wy.dp h2, s1, s2, ?_⟩
    rw [← h3, Bool.not_not]
    exact q
  · rcases lt?_shape e with ⟨i, j, rfl, rfl, rfl⟩ | ⟨d, e', h1, h2, h3, h4, h5, rfl⟩
    · rw [wx.int] at rx; rw [wy.int] at ry
      exact op_lt pins s σ H _ _ v u Q I rx ry ⟨i, j, rfl, rfl, q⟩
    · exact op_ltD hu pins s σ H x y v u Q I rx ry ⟨d, e', wx.dp h1, wy.dp h2, h3, h4, h5, q⟩
  · cases e
    rename_i i j
    rw [wx.int] at rx; rw [wy.int] at ry
    exact op_le pins s σ H _ _ v u Q I rx ry ⟨i, j, rfl, rfl, q⟩
  · cases e
    rename_i i j
    rw [wx.int] at rx; rw [wy.int] at ry
    exact op_gt pins s σ H _ _ v u Q I rx ry ⟨i, j, rfl, rfl, q⟩
  · cases e
    rename_i i j
    rw [wx.int] at rx; rw [wy.int] at ry
    exact op_ge pins s σ H _ _ v u Q I rx ry ⟨i, j, rfl, rfl, q⟩
  · rcases is?_shape e with ⟨rfl, h⟩ | ⟨a, b, rfl, rfl, rfl⟩
    · rw [wy.non] at ry
      refine op_isN pins s σ H x _ v u Q I rx ry ⟨rfl, ?_⟩
      rcases h with ⟨rfl, rfl⟩ | ⟨h, rfl⟩
      · rw [wx.non]
        exact q
      · rw [decide_eq_false (wx.not_non h)]
        exact q
    · rw [wx.bl] at rx; rw [wy.bl] at ry
      refine op_is_bl pins s σ H _ _ v u Q I rx ry ⟨a, b, rfl, rfl, ?_⟩
      rw [Bool.beq_eq_decide_eq] at q
      exact q
  · have e := onot_some e
    rcases is?_shape e with ⟨rfl, h⟩ | ⟨a, b, rfl, rfl, h⟩
    · rw [wy.non] at ry
      refine op_notN pins s σ H x _ v u Q I rx ry ⟨rfl, ?_⟩
      rcases h with ⟨rfl, h⟩ | ⟨h', h⟩
      · rw [wx.non]
        cases c
        · exact q
        · cases h
      · rw [decide_eq_false (wx.not_non h')]
        cases c
        · cases h
        · exact q
    · rw [wx.bl] at rx; rw [wy.bl] at ry
      refine op_isnot_bl pins s σ H _ _ v u Q I rx ry ⟨a, b, rfl, rfl, ?_⟩
      rw [Bool.beq_eq_decide_eq] at h
      rw [← h, Bool.not_not]
      exact q
  · rcases in?_shape e with ⟨s', t, rfl, rfl, rfl⟩ | ⟨d, ds, h1, h2, s1, s2, rfl⟩
    · rw [wx.str] at rx; rw [wy.str] at ry
      exact op_in_str pins s σ H _ _ v u Q I rx ry ⟨s', t, rfl, rfl, q⟩
    · exact op_inTD hu false pins s σ H x y v u Q I rx ry ⟨d, ds, wx.dp h1, h2.elim (fun z => .inr (wy.dp z)) (fun z => .inl (wy.dp z)), s1, s2, q⟩
  · have e := onot_some e
    rcases in?_shape e with ⟨s', t, rfl, rfl, h⟩ | ⟨d, ds, h1, h2, s1, s2, h⟩
    · rw [wx.str] at rx; rw [wy.str] at ry
      refine op_notin_str pins s σ H _ _ v u Q I rx ry ⟨s', t, rfl, rfl, ?_⟩
      rw [← h, Bool.not_not]
      exact q
    · refine op_inTD hu true pins s σ H x y v u Q I rx ry ⟨d, ds, wx.dp h1, h2.elim (fun z => .inr (wy.dp z)) (fun z => .inl (wy.dp z)), s1, s2, ?_⟩
      rw [if_pos rfl, ← h, Bool.not_not]
      exact q
  · cases e
end
end GB

/-! GIter: enumerate and zip of lists and tuples in any mix, as walks of the layer. -/
namespace GB
open PySem PySem.Spec PyProof.Rows L2
/-- a list or a tuple -/
inductive Kd where
  | l | t
def SqK (K : PySem.W.Frag) : Kd → Hp → Addr → List V → Prop
  | .l => L2.SqL K
  | .t => L2.SqT K
def IterK : Kd → Heap → Addr → Addr → Nat → Prop
  | .l => fun h it a i => h.IsListIter it a i
  | .t => fun h it a i => h.IsTupleIter it a i
def IsK : Kd → Heap → Addr → Array Value → Prop
  | .l => fun h a xs => h.IsList a xs
  | .t => fun h a xs => h.IsTuple a xs
def itObj : Kd → Addr → Obj
  | .l => fun a => { cls := .type "list_iterator", data := .fields #[.ref a, .int 0 0] }
  | .t => fun a => { cls := .type "tuple_iterator", data := .fields #[.ref a, .int 0 0] }
theorem draws_kd {prog : Program} {w : World} {A : Around} (hh : A.handled = none) (k : Kd) (it a : Addr) (hne : a ≠ it) (items : Array Value) :
    Draws prog w A it [it, a] items.size (fun i v => items[i]? = some v) (fun i h => IterK k h it a i ∧ IsK k h a items) := by
  cases k with
  | l => exact Draws.list hh it a hne items
  | t => exact Draws.tuple hh it a hne items
theorem begins_kd (k : Kd) (a : Addr) (items : Array Value) : Begins (.ref a) (itObj k a) fun h => IsK k h a items := by
  cases k with
  | l => exact begins_list a items
  | t => exact begins_tuple a items
theorem iter_new (k : Kd) {h : Heap} {it a : Addr} (e : h.get? it = some (itObj k a)) : IterK k h it a 0 := by
  cases k with
  | l => exact ⟨_, e, rfl, rfl⟩
  | t => exact ⟨_, e, rfl, rfl⟩
theorem iter_at (k : Kd) {h h' : Heap} {it a : Addr} {i : Nat} (x : IterK k h it a i) (kp : ∀ o, h.get? it = some o → h'.get? it = some o) : IterK k h' it a i := by
  cases k with
  | l => exact Heap.IsListIter.at x kp
  | t => exact Heap.IsTupleIter.at x kp
theorem iter_obj (k : Kd) {h : Heap} {it a : Addr} {i : Nat} (x : IterK k h it a i) : ∃ o, h.get? it = some o ∧ ∀ v, o.data ≠ .cell v := by
  cases k with
  | l =>
    obtain ⟨o, e, _, d⟩ := x
    exact ⟨o, e, fun v z => by rw [d] at z; cases z⟩
  | t =>
    obtain ⟨o, e, _, d⟩ := x
    exact ⟨o, e, fun v z => by rw [d] at z; cases z⟩
section
variable {X : Cx} {pins : List (Addr × Obj)} {σ : L2.St} {H : Hp} {s : Shared} {a : Addr} {xs ys : List V}
theorem inv_kd (k : Kd) (I : Inv X pins σ H s) (h : SqK X.K k H a xs) : ∃ its : List Value, Vals xs its ∧ IsK k s.heap a its.toArray ∧ a < s.heap.objs.size := by
  cases k with
  | l =>
    obtain ⟨its, r, p, _⟩ := I.list h
    exact ⟨its, r, p.isList, p.lt⟩
  | t =>
    obtain ⟨its, r, p, _⟩ := I.tuple h
    exact ⟨its, r, p, p.lt⟩
theorem inj_kd (k : Kd) (I : Inv X pins σ H s) (h : SqK X.K k H a xs) (h' : SqK X.K k H a ys) : xs = ys := by
  cases k with
  | l => exact I.list_inj h h'
  | t => exact I.tuple_inj h h'
end
/-- from a walk of the library that hands out new tuples -/
theorem turn_of {P : Program} {w : World} {K : PySem.W.Frag} {elts : List Expr} {kk : Nat} {tpos : Pos} {J : L2.It} {fp : List Addr} {z : Addr} {tn : Nat → Heap → Prop} (mem : z ∈ fp)
    (obj : ∀ i h, tn i h → ∀ b ∈ fp, ∃ o, h.get? b = some o ∧ ∀ v, o.data ≠ .cell v)
    (keep : ∀ i h h', tn i h → (∀ b ∈ fp, ∀ o, h.get? b = some o → h'.get? b = some o) → tn i h')
    (step : ∀ (X : Cx), X.prog = P → X.w = w → X.K = K → X.calm = true → ∀ (i : Nat) (pins : List (Addr × Obj)) (s : Shared) (σ : L2.St) (H : Hp), Inv X pins σ H s → tn i s.heap → J.go i H →
      ∃ (fp' wr : List Addr) (n : Nat) (Pt : Nat → Array Value → Prop) (St : Nat → Heap → Prop) (Mid : Nat → Addr → Heap → Prop), WalksT P w X.A z fp' wr n Pt St Mid ∧ i < n ∧ St i s.heap ∧ (∀ b ∈ wr, b ∈ fp) ∧ (∀ h', St (i + 1) h' → tn (i + 1) h') ∧
        ∀ vals, Pt i vals → ∃ xs : List V, xs.length ≤ 3 ∧ Vals xs vals.toList ∧ ∀ T, H T = none → J.yld i H (.ref T) (upd H T (.tup xs)))
    (fin : ∀ (X : Cx), X.prog = P → X.w = w → X.K = K → X.calm = true → ∀ (i : Nat) (pins : List (Addr × Obj)) (s : Shared) (σ : L2.St) (H : Hp), Inv X pins σ H s → tn i s.heap → J.stop i H →
      ∃ (fp' wr : List Addr) (n : Nat) (Pt : Nat → Array Value → Prop) (St : Nat → Heap → Prop) (Mid : Nat → Addr → Heap → Prop), WalksT P w X.A z fp' wr n Pt St Mid ∧ St n s.heap ∧ (∀ b ∈ wr, b ∈ fp))
    (self : ∀ (A : Around) (i : Nat) (s : Shared) (Q : Value → Shared → Prop) (E : Value → Shared → Prop), tn i s.heap → Q (.ref z) s → wpAny (model P w) A (pyIter (.ref z)) Q E s) :
    Turn P w K (.Tuple elts kk tpos) J fp z tn where
  mem := mem
  obj := obj
  keep := keep
  item := by
    intro X hP hw hK hc i pins s σ H E I hf st hg
    obtain ⟨fp', wr, n, Pt, St, Mid, W, hi, hst, hwr, nx, yl⟩ := step X hP hw hK hc i pins s σ H I st hg
    subst hP hw hK
    refine W.item i s _ _ hi hst fun T vals h' tk hp hT hT2 hm hk => ?_
    refine ⟨_, rfl, W.go elts kk tpos i T { s with heap := h', toks := tk } _ _ hm fun h'' hs'' hk2 => ?_⟩
    obtain ⟨xs, hl, rv, y⟩ := yl vals hp
    have nT : T ∉ wr := W.apart i T h' hm
    obtain ⟨o, ho, hcl, m, hd⟩ := hT2
    have ho2 : h''.get? T = some o := hk2 T o nT ho
    have new : ObjOk X.prog X.w (upd H T (.tup xs)) h'' T (.tup xs) := ⟨Nat.le_trans hl (by rw [sizeLine_eq]; decide), vals.toList, rv, o, ho2, hcl, m, by simpa using hd⟩
    have I1 : Inv X pins σ (upd H T (.tup xs)) { s with heap := h'', toks := tk } :=
      I.turnedNew (ch := wr) (fun b ob hb q => hk2 b ob hb (hk b ob hb q)) (fun b hb => hf b (hwr b hb)) hT new
    refine ⟨.ref T, _, I1, rfl, y T (I.hok.fresh hT), nx _ hs'', fun b hb => ?_⟩
    obtain ⟨ob, hob, _⟩ := obj i s.heap st b hb
    rw [upd_ne (Nat.ne_of_lt (Nat.lt_of_lt_of_le (Heap.lt_size hob) hT))]
    exact (hf b hb).1
  done := by
    intro X hP hw hK hc i pins s σ H E I hf st hg
    obtain ⟨fp', wr, n, Pt, St, Mid, W, hst, hwr⟩ := fin X hP hw hK hc i pins s σ H I st hg
    subst hP hw hK
    exact W.done s _ _ hst fun h' tk hk => ⟨rfl, I.turnedL (ch := wr) hk fun b hb => hf b (hwr b hb)⟩
  self := self
/-! ### enumerate -/
def ItE (K : PySem.W.Frag) (k : Kd) (a : Addr) : L2.It :=
  ⟨fun i H => ∃ xs : List V, SqK K k H a xs ∧ i < xs.length, fun i H v H' => ∃ T x, v = .ref T ∧ H T = none ∧ H' = upd H T (.tup [.int (i : Nat), x]) ∧ ∀ xs, SqK K k H a xs → xs[i]? = some x, fun i H => ∃ xs : List V, SqK K k H a xs ∧ xs.length = i⟩
theorem turn_enumK {P : Program} {w : World} {K : PySem.W.Frag} {elts : List Expr} {kk : Nat} {tpos : Pos} (k : Kd) (a e it : Addr) (nei : e ≠ it) (nea : e ≠ a) (nia : a ≠ it) :
    Turn P w K (.Tuple elts kk tpos) (ItE K k a) [e, it] e (fun i h => (∃ old, IsEnum h e it ((i : Nat) : Int) old) ∧ IterK k h it a i) := by
  refine turn_of (by simp) (fun i h st b hb => ?_) (fun i h h' st kp => ?_) (fun X hP hw hK hc i pins s σ H I st hg => ?_) (fun X hP hw hK hc i pins s σ H I st hg => ?_) (fun A i s Q E st h => let ⟨⟨_, he⟩, _⟩ := st; wpAny_pyIter_enum he h)
  · obtain ⟨⟨old, he⟩, hi⟩ := st
    rcases (by simpa using hb : b = e ∨ b = it) with z | z
    · rw [z]; exact ⟨_, he, fun v q => nomatch q⟩
    · rw [z]; exact iter_obj k hi
  · obtain ⟨⟨old, he⟩, hi⟩ := st
    exact ⟨⟨old, kp e (by simp) _ he⟩, iter_at k hi fun o q => kp it (by simp) o q⟩
  · subst hP hw hK
    obtain ⟨xs, hq, hx⟩ := hg
    obtain ⟨its, rv, p, _⟩ := inv_kd k I hq
    have hlen := rv.length
    refine ⟨_, _, _, _, _, _, WalksT.enumerateD (draws_kd (prog := X.prog) (w := X.w) (A := X.A.in1) (I.ok.hd hc) k it a nia its.toArray) e nei (by simp [nei, nea]) (by simp), by simpa using (hlen ▸ hx), ⟨st.1, st.2, p⟩, fun b hb => hb, fun h' q => ⟨q.1, q.2.1⟩, fun vals hp => ?_⟩
    obtain ⟨t, x, hx', rfl⟩ := hp
    obtain ⟨v, hv⟩ : ∃ v, xs[i]? = some v := ⟨xs[i], by simp [hx]⟩
    obtain ⟨u, hu, ru⟩ := rv.get hv
    have eu : u = x := by
      have : its[i]? = some x := by simpa using hx'
      rw [hu] at this
      exact Option.some.inj this
    subst eu
    exact ⟨[.int (i : Nat), v], by show 2 ≤ 3; decide, .cons ⟨_, rfl⟩ (.cons ru .nil), fun T hT => ⟨T, v, rfl, hT, rfl, fun ys hy => by rw [inj_kd k I hy hq]; exact hv⟩⟩
  · subst hP hw hK
    obtain ⟨xs, hq, hx⟩ := hg
    obtain ⟨its, rv, p, _⟩ := inv_kd k I hq
    have hlen := rv.length
    refine ⟨_, _, _, _, _, _, WalksT.enumerateD (draws_kd (prog := X.prog) (w := X.w) (A := X.A.in1) (I.ok.hd hc) k it a nia its.toArray) e nei (by simp [nei, nea]) (by simp), ?_, fun b hb => hb⟩
    have ei : i = its.toArray.size := by simp; omega
    rw [← ei]
    exact ⟨st.1, st.2, p⟩
theorem meets_enum1 {v : Value} {o : Obj} {H : Heap → Prop} (B : Begins v o H) :
    Meets (Builtin.«enumerate.__new__» ⟨[.type "enumerate", v], []⟩) (fun _ R s => H s.heap ∧
      R (.ok (.ret (.ref (s.heap.push o).objs.size))) { s with heap := (s.heap.push o).push { cls := .type "enumerate", data := .fields #[.none, .bool false, .ref s.heap.objs.size, rawInt 0, .none, .none] } }) :=
  .of_wp fun prog w A R s h => by
    obtain ⟨hp, g, d, tk, os⟩ := s; obtain ⟨h1, h⟩ := h
    have hsub := sub_enumerate
    have q1 : ∀ {A' : Around} {E : Value → Shared → Prop} {Q : Value → Shared → Prop}, Q (.ref hp.objs.size) ⟨hp.push o, g, d, tk, os⟩ → wpAny (model prog w) A' (pyIter v) Q E ⟨hp, g, d, tk, os⟩ :=
      fun q => B.iter prog w _ _ ⟨hp, g, d, tk, os⟩ _ h1 q
    wp_walk using q1
    refine wpAny_stack_any fun st => wpAny_pure ?_
    split
    · rename_i c _ _ _ _ _
      cases (c == Value.type "enumerate")
      · wp_walk using q1
        exact ⟨_, rfl, h⟩
      · wp_walk using q1
        exact ⟨_, rfl, h⟩
    · wp_walk using q1
      exact ⟨_, rfl, h⟩
theorem call_enumK {prog : Program} {w : World} {A : Around} {E : Value → Shared → Prop} {s : Shared} (k : Kd) {a : Addr} {items : Array Value} {Q : Value → Shared → Prop} (hL : IsK k s.heap a items)
    (h : ∀ h', IsEnum h' (s.heap.objs.size + 1) s.heap.objs.size 0 .none → IterK k h' s.heap.objs.size a 0 → (∀ b o, s.heap.get? b = some o → h'.get? b = some o) → Q (.ref (s.heap.objs.size + 1)) { s with heap := h' }) :
    wpAny (model prog w) A (call (.type "enumerate") [.ref a]) Q E s := by
  refine callType_new F.called_enumerate (by decide) (F.typeCall_enumerate_1 _) (F.newCall_enumerate_1 _) (fun obj => F.args_object_init_2 obj _) F.entry_enumerate_new
    (meets_enum1 (begins_kd k a items)) ⟨hL, ?_⟩
  have hz : (s.heap.push (itObj k a)).objs.size = s.heap.objs.size + 1 := Heap.size_push ..
  show _ ∧ _
  rw [hz]
  have fr : (itObj k a).isFreed = false := (begins_kd k a items).free
  have he : IsEnum ((s.heap.push (itObj k a)).push { cls := .type "enumerate", data := .fields #[.none, .bool false, .ref s.heap.objs.size, rawInt 0, .none, .none] }) (s.heap.objs.size + 1) s.heap.objs.size 0 .none := by
    have := Heap.get?_push_size (s.heap.push (itObj k a)) (o := { cls := .type "enumerate", data := .fields #[.none, .bool false, .ref s.heap.objs.size, rawInt 0, .none, .none] }) rfl
    rw [hz] at this; exact this
  exact ⟨⟨_, he, rfl⟩, h _ he (iter_new k (Heap.get?_push_of_some _ (Heap.get?_push_size _ fr))) fun b o x => Heap.get?_push_of_some _ (Heap.get?_push_of_some _ x)⟩
def iEnumK (K : PySem.W.Frag) (ta : TA) : TI := fun σ H R => ta σ H fun vs H1 => ∃ k a xs, vs = [.ref a] ∧ SqK K k H1 a xs ∧ R (ItE K k a) H1
theorem pi_enumK {X : Cx} {e : Expr} {ta : TA} {p pos tpos : Pos} {elts : List Expr} {kk : Nat} (hg : Gl X "enumerate") (hm : X.mg "enumerate" = none) (ha : PA X [e] ta) (hs : starEach [e] X.env = [(false, eval e X.env)]) :
    PI X (.Tuple elts kk tpos) (.Call (.Name "enumerate" p) [e] [] pos) (iEnumK X.K ta) := by
  refine ⟨fun pins s σ H R I h => ?_⟩
  refine Call_ (ld_blt I hg hm boot_enumerate (PyProof.Rows.callWith_type1 (thn (ha.run pos pins s σ H _ I h) fun us s1 ⟨vs, H1, I1, r1, q1⟩ => ?_) hs rfl))
  obtain ⟨k, a, xs, ex, hq, q⟩ := q1
  subst ex
  cases r1 with
  | cons r rr =>
    cases rr
    cases r
    obtain ⟨its, rv, p', hlt⟩ := inv_kd k I1 hq
    refine call_enumK k p' fun h' he hit hk => wpAny_pyIter_enum he ?_
    have I2 : Inv X pins σ H1 { s1 with heap := h' } := I1.kept (t' := s1.toks) hk
    have hlt : (a : Nat) < s1.heap.objs.size := hlt
    refine ⟨s1.heap.objs.size + 1, [s1.heap.objs.size + 1, s1.heap.objs.size], _, _, H1, rfl, I2, turn_enumK k a (s1.heap.objs.size + 1) s1.heap.objs.size (Nat.succ_ne_self _) (Nat.ne_of_gt (Nat.lt_succ_of_lt hlt)) (Nat.ne_of_lt hlt), ⟨⟨.none, he⟩, hit⟩, fun b hb => ?_, q⟩
    have hle : s1.heap.objs.size ≤ b := by
      rcases (by simpa using hb : b = s1.heap.objs.size + 1 ∨ b = s1.heap.objs.size) with z | z
      · rw [z]; exact Nat.le_add_right _ _
      · rw [z]; exact Nat.le_refl _
    exact I1.fpOk hle (I1.hok.fresh hle)
/-! ### zip of two -/
def ItZ2 (K : PySem.W.Frag) (k1 k2 : Kd) (a b : Addr) : L2.It :=
  ⟨fun i H => ∃ xs ys : List V, SqK K k1 H a xs ∧ SqK K k2 H b ys ∧ i < xs.length ∧ i < ys.length,
   fun i H v H' => ∃ T x y, v = .ref T ∧ H T = none ∧ H' = upd H T (.tup [x, y]) ∧ (∀ xs, SqK K k1 H a xs → xs[i]? = some x) ∧ ∀ ys, SqK K k2 H b ys → ys[i]? = some y,
   fun i H => ∃ xs ys : List V, SqK K k1 H a xs ∧ SqK K k2 H b ys ∧ min xs.length ys.length = i⟩
theorem item_same {its : List Value} {u x : Value} {i : Nat} (hu : its[i]? = some u) (hx : its.toArray[i]? = some x) : u = x := by
  have : its[i]? = some x := by simpa using hx
  rw [hu] at this
  exact Option.some.inj this
theorem turn_zipK2 {P : Program} {w : World} {K : PySem.W.Frag} {elts : List Expr} {kk : Nat} {tpos : Pos} (k1 k2 : Kd) {a b z TI TO i1 i2 : Addr} (S : ZipSep2 z TI TO i1 i2 [i1, a] [i2, b]) (n1 : a ≠ i1) (n2 : b ≠ i2) :
    Turn P w K (.Tuple elts kk tpos) (ItZ2 K k1 k2 a b) [z, TI, TO, i1, i2] z (fun i h => IsZip h z TI TO .none ∧ IsTupOf2 h TI (.ref i1) (.ref i2) ∧ (∃ x y, IsTupOf2 h TO x y) ∧ IterK k1 h i1 a i ∧ IterK k2 h i2 b i) := by
  refine turn_of (by simp) (fun i h st c hc => ?_) (fun i h h' st kp => ?_) (fun X hP hw hK hc i pins s σ H I st hg => ?_) (fun X hP hw hK hc i pins s σ H I st hg => ?_) (fun A i s Q E st h => wpAny_pyIter_zip st.1 h)
  · obtain ⟨hz, hTI, ⟨x, y, hTO⟩, h1, h2⟩ := st
    rcases (by simpa using hc : c = z ∨ c = TI ∨ c = TO ∨ c = i1 ∨ c = i2) with q | q | q | q | q
    · rw [q]; exact ⟨_, hz, fun v q => nomatch q⟩
    · rw [q]; exact ⟨_, hTI, fun v q => nomatch q⟩
    · rw [q]; exact ⟨_, hTO, fun v q => nomatch q⟩
    · rw [q]; exact iter_obj k1 h1
    · rw [q]; exact iter_obj k2 h2
  · obtain ⟨hz, hTI, ⟨x, y, hTO⟩, h1, h2⟩ := st
    exact ⟨kp z (by simp) _ hz, kp TI (by simp) _ hTI, ⟨x, y, kp TO (by simp) _ hTO⟩, iter_at k1 h1 fun o q => kp i1 (by simp) o q, iter_at k2 h2 fun o q => kp i2 (by simp) o q⟩
  · subst hP hw hK
    obtain ⟨xs, ys, hq1, hq2, l1, l2⟩ := hg
    obtain ⟨its, rv, p, _⟩ := inv_kd k1 I hq1
    obtain ⟨its2, rv2, p2, _⟩ := inv_kd k2 I hq2
    have e1 := rv.length
    have e2 := rv2.length
    obtain ⟨hz, hTI, hTO, h1, h2⟩ := st
    refine ⟨_, _, _, _, _, _, WalksT.zipD2 S (draws_kd (prog := X.prog) (w := X.w) (A := X.A.in1) (I.ok.hd hc) k1 i1 a n1 its.toArray) (draws_kd (prog := X.prog) (w := X.w) (A := X.A.in1) (I.ok.hd hc) k2 i2 b n2 its2.toArray), by simp; omega,
      ⟨hz, hTI, hTO, ⟨h1, p⟩, ⟨h2, p2⟩⟩, fun c hc => ?_, fun h' q => ⟨q.1, q.2.1, q.2.2.1, q.2.2.2.1.1, q.2.2.2.2.1⟩, fun vals hp => ?_⟩
    · rcases (by simpa using hc : c = z ∨ c = TO ∨ c = i1 ∨ c = i2) with q | q | q | q <;> simp [q]
    · obtain ⟨x1, x2, hx1, hx2, rfl⟩ := hp
      have hv : xs[i]? = some xs[i] := by simp [l1]
      have hv2 : ys[i]? = some ys[i] := by simp [l2]
      obtain ⟨u, hu, ru⟩ := rv.get hv
      obtain ⟨u2, hu2, ru2⟩ := rv2.get hv2
      have eu := item_same hu hx1
      have eu2 := item_same hu2 hx2
      subst eu eu2
      exact ⟨[xs[i], ys[i]], by show 2 ≤ 3; decide, .cons ru (.cons ru2 .nil), fun T hT => ⟨T, _, _, rfl, hT, rfl, fun zs hy => by rw [inj_kd k1 I hy hq1]; exact hv, fun zs hy => by rw [inj_kd k2 I hy hq2]; exact hv2⟩⟩
  · subst hP hw hK
    obtain ⟨xs, ys, hq1, hq2, l1⟩ := hg
    obtain ⟨its, rv, p, _⟩ := inv_kd k1 I hq1
    obtain ⟨its2, rv2, p2, _⟩ := inv_kd k2 I hq2
    have e1 := rv.length
    have e2 := rv2.length
    obtain ⟨hz, hTI, hTO, h1, h2⟩ := st
    refine ⟨_, _, _, _, _, _, WalksT.zipD2 S (draws_kd (prog := X.prog) (w := X.w) (A := X.A.in1) (I.ok.hd hc) k1 i1 a n1 its.toArray) (draws_kd (prog := X.prog) (w := X.w) (A := X.A.in1) (I.ok.hd hc) k2 i2 b n2 its2.toArray), ?_, fun c hc => ?_⟩
    · have ei : i = min its.toArray.size its2.toArray.size := by simp; omega
      rw [← ei]
      exact ⟨hz, hTI, hTO, ⟨h1, p⟩, ⟨h2, p2⟩⟩
    · rcases (by simpa using hc : c = z ∨ c = TO ∨ c = i1 ∨ c = i2) with q | q | q | q <;> simp [q]
def iZip2 (K : PySem.W.Frag) (ta : TA) : TI := fun σ H R => ta σ H fun vs H1 => ∃ k1 k2 a b xs ys, vs = [.ref a, .ref b] ∧ SqK K k1 H1 a xs ∧ SqK K k2 H1 b ys ∧ R (ItZ2 K k1 k2 a b) H1
theorem pi_zip2 {X : Cx} {e e2 : Expr} {ta : TA} {p pos tpos : Pos} {elts : List Expr} {kk : Nat} (hg : Gl X "zip") (hm : X.mg "zip" = none) (ha : PA X [e, e2] ta)
    (hs : starEach [e, e2] X.env = (false, eval e X.env) :: starEach [e2] X.env) (hpl : (backTo pos (starEach [e2] X.env)).any (·.1) = false) :
    PI X (.Tuple elts kk tpos) (.Call (.Name "zip" p) [e, e2] [] pos) (iZip2 X.K ta) := by
  refine ⟨fun pins s σ H R I h => ?_⟩
  refine Call_ (ld_blt I hg hm PyProof.Rows.boot_zip (PyProof.Rows.callWith_type1 (thn (ha.run pos pins s σ H _ I h) fun us s1 ⟨vs, H1, I1, r1, q1⟩ => ?_) hs hpl))
  obtain ⟨k1, k2, a, b, xs, ys, ex, hqx, hqy, q⟩ := q1
  subst ex
  cases r1 with
  | cons r rr =>
    cases rr with
    | cons r' rr =>
      cases rr
      cases r
      cases r'
      obtain ⟨its, rv, p1, la⟩ := inv_kd k1 I1 hqx
      obtain ⟨its2, rv2, p2, lb⟩ := inv_kd k2 I1 hqy
      refine zip_begins2 (begins_kd k1 a its.toArray) (begins_kd k2 b its2.toArray) p1 p2 fun h' hz hTI hTO h1 h2 hsz hk => wpAny_pyIter_zip hz ?_
      have I2 : Inv X pins σ H1 { s1 with heap := h' } := I1.kept (t' := s1.toks) hk
      have S := zip_sep2 (N := s1.heap.objs.size) (fp1 := [a]) (fp2 := [b]) (fun c hc => by rw [List.mem_singleton.mp hc]; exact la) (fun c hc => by rw [List.mem_singleton.mp hc]; exact lb)
      have la : (a : Nat) < s1.heap.objs.size := la
      have lb : (b : Nat) < s1.heap.objs.size := lb
      refine ⟨s1.heap.objs.size + 4, [s1.heap.objs.size + 4, s1.heap.objs.size + 2, s1.heap.objs.size + 3, s1.heap.objs.size, s1.heap.objs.size + 1], _, _, H1, rfl, I2, turn_zipK2 k1 k2 S (Nat.ne_of_lt la) (Nat.ne_of_lt (Nat.lt_succ_of_lt lb)), ⟨hz, hTI, ⟨_, _, hTO⟩, iter_new k1 h1, iter_new k2 h2⟩, fun c hcm => ?_, q⟩
      have hle : s1.heap.objs.size ≤ c := by
        rcases (by simpa using hcm : c = s1.heap.objs.size + 4 ∨ c = s1.heap.objs.size + 2 ∨ c = s1.heap.objs.size + 3 ∨ c = s1.heap.objs.size ∨ c = s1.heap.objs.size + 1) with z | z | z | z | z
        · rw [z]; exact Nat.le_add_right _ _
        · rw [z]; exact Nat.le_add_right _ _
        · rw [z]; exact Nat.le_add_right _ _
        · rw [z]; exact Nat.le_refl _
        · rw [z]; exact Nat.le_add_right _ _
      exact I1.fpOk hle (I1.hok.fresh hle)
/-! ### zip of three -/
def ItZ3 (K : PySem.W.Frag) (k1 k2 k3 : Kd) (a b c : Addr) : L2.It :=
  ⟨fun i H => ∃ xs ys zs : List V, SqK K k1 H a xs ∧ SqK K k2 H b ys ∧ SqK K k3 H c zs ∧ i < xs.length ∧ i < ys.length ∧ i < zs.length,
   fun i H v H' => ∃ T x y z, v = .ref T ∧ H T = none ∧ H' = upd H T (.tup [x, y, z]) ∧ (∀ xs, SqK K k1 H a xs → xs[i]? = some x) ∧ (∀ ys, SqK K k2 H b ys → ys[i]? = some y) ∧ ∀ zs, SqK K k3 H c zs → zs[i]? = some z,
   fun i H => ∃ xs ys zs : List V, SqK K k1 H a xs ∧ SqK K k2 H b ys ∧ SqK K k3 H c zs ∧ min (min xs.length ys.length) zs.length = i⟩
theorem turn_zipK3 {P : Program} {w : World} {K : PySem.W.Frag} {elts : List Expr} {kk : Nat} {tpos : Pos} (k1 k2 k3 : Kd) {a b c z TI TO i1 i2 i3 : Addr} (S : ZipSep3 z TI TO i1 i2 i3 [i1, a] [i2, b] [i3, c]) (n1 : a ≠ i1) (n2 : b ≠ i2) (n3 : c ≠ i3) :
    Turn P w K (.Tuple elts kk tpos) (ItZ3 K k1 k2 k3 a b c) [z, TI, TO, i1, i2, i3] z (fun i h => IsZip h z TI TO .none ∧ IsTupOf3 h TI (.ref i1) (.ref i2) (.ref i3) ∧ (∃ x y u, IsTupOf3 h TO x y u) ∧ IterK k1 h i1 a i ∧ IterK k2 h i2 b i ∧ IterK k3 h i3 c i) := by
  refine turn_of (by simp) (fun i h st d hc => ?_) (fun i h h' st kp => ?_) (fun X hP hw hK hc i pins s σ H I st hg => ?_) (fun X hP hw hK hc i pins s σ H I st hg => ?_) (fun A i s Q E st h => wpAny_pyIter_zip st.1 h)
  · obtain ⟨hz, hTI, ⟨x, y, u, hTO⟩, h1, h2, h3⟩ := st
    rcases (by simpa using hc : d = z ∨ d = TI ∨ d = TO ∨ d = i1 ∨ d = i2 ∨ d = i3) with q | q | q | q | q | q
    · rw [q]; exact ⟨_, hz, fun v q => nomatch q⟩
    · rw [q]; exact ⟨_, hTI, fun v q => nomatch q⟩
    · rw [q]; exact ⟨_, hTO, fun v q => nomatch q⟩
    · rw [q]; exact iter_obj k1 h1
    · rw [q]; exact iter_obj k2 h2
    · rw [q]; exact iter_obj k3 h3
  · obtain ⟨hz, hTI, ⟨x, y, u, hTO⟩, h1, h2, h3⟩ := st
    exact ⟨kp z (by simp) _ hz, kp TI (by simp) _ hTI, ⟨x, y, u, kp TO (by simp) _ hTO⟩, iter_at k1 h1 fun o q => kp i1 (by simp) o q, iter_at k2 h2 fun o q => kp i2 (by simp) o q, iter_at k3 h3 fun o q => kp i3 (by simp) o q⟩
  · subst hP hw hK
    obtain ⟨xs, ys, zs, hq1, hq2, hq3, l1, l2, l3⟩ := hg
    obtain ⟨its, rv, p, _⟩ := inv_kd k1 I hq1
    obtain ⟨its2, rv2, p2, _⟩ := inv_kd k2 I hq2
    obtain ⟨its3, rv3, p3, _⟩ := inv_kd k3 I hq3
    have e1 := rv.length
    have e2 := rv2.length
    have e3 := rv3.length
    obtain ⟨hz, hTI, hTO, h1, h2, h3⟩ := st
    refine ⟨_, _, _, _, _, _, WalksT.zipD3 S (draws_kd (prog := X.prog) (w := X.w) (A := X.A.in1) (I.ok.hd hc) k1 i1 a n1 its.toArray) (draws_kd (prog := X.prog) (w := X.w) (A := X.A.in1) (I.ok.hd hc) k2 i2 b n2 its2.toArray) (draws_kd (prog := X.prog) (w := X.w) (A := X.A.in1) (I.ok.hd hc) k3 i3 c n3 its3.toArray), by simp; omega,
      ⟨hz, hTI, hTO, ⟨h1, p⟩, ⟨h2, p2⟩, ⟨h3, p3⟩⟩, fun c hc => ?_, fun h' q => ⟨q.1, q.2.1, q.2.2.1, q.2.2.2.1.1, q.2.2.2.2.1.1, q.2.2.2.2.2.1⟩, fun vals hp => ?_⟩
    · rcases (by simpa using hc : c = z ∨ c = TO ∨ c = i1 ∨ c = i2 ∨ c = i3) with q | q | q | q | q <;> simp [q]
    · obtain ⟨x1, x2, x3, hx1, hx2, hx3, rfl⟩ := hp
      have hv : xs[i]? = some xs[i] := by simp [l1]
      have hv2 : ys[i]? = some ys[i] := by simp [l2]
      have hv3 : zs[i]? = some zs[i] := by simp [l3]
      obtain ⟨u, hu, ru⟩ := rv.get hv
      obtain ⟨u2, hu2, ru2⟩ := rv2.get hv2
      obtain ⟨u3, hu3, ru3⟩ := rv3.get hv3
      have eu := item_same hu hx1
      have eu2 := item_same hu2 hx2
      have eu3 := item_same hu3 hx3
      subst eu eu2 eu3
      exact ⟨[xs[i], ys[i], zs[i]], by show 3 ≤ 3; decide, .cons ru (.cons ru2 (.cons ru3 .nil)), fun T hT => ⟨T, _, _, _, rfl, hT, rfl, fun zs hy => by rw [inj_kd k1 I hy hq1]; exact hv, fun zs hy => by rw [inj_kd k2 I hy hq2]; exact hv2, fun zs hy => by rw [inj_kd k3 I hy hq3]; exact hv3⟩⟩
  · subst hP hw hK
    obtain ⟨xs, ys, zs, hq1, hq2, hq3, l1⟩ := hg
    obtain ⟨its, rv, p, _⟩ := inv_kd k1 I hq1
    obtain ⟨its2, rv2, p2, _⟩ := inv_kd k2 I hq2
    obtain ⟨its3, rv3, p3, _⟩ := inv_kd k3 I hq3
    have e1 := rv.length
    have e2 := rv2.length
    have e3 := rv3.length
    obtain ⟨hz, hTI, hTO, h1, h2, h3⟩ := st
    refine ⟨_, _, _, _, _, _, WalksT.zipD3 S (draws_kd (prog := X.prog) (w := X.w) (A := X.A.in1) (I.ok.hd hc) k1 i1 a n1 its.toArray) (draws_kd (prog := X.prog) (w := X.w) (A := X.A.in1) (I.ok.hd hc) k2 i2 b n2 its2.toArray) (draws_kd (prog := X.prog) (w := X.w) (A := X.A.in1) (I.ok.hd hc) k3 i3 c n3 its3.toArray), ?_, fun c hc => ?_⟩
    · have ei : i = min (min its.toArray.size its2.toArray.size) its3.toArray.size := by simp; omega
      rw [← ei]
      exact ⟨hz, hTI, hTO, ⟨h1, p⟩, ⟨h2, p2⟩, ⟨h3, p3⟩⟩
    · rcases (by simpa using hc : c = z ∨ c = TO ∨ c = i1 ∨ c = i2 ∨ c = i3) with q | q | q | q | q <;> simp [q]
def iZip3 (K : PySem.W.Frag) (ta : TA) : TI := fun σ H R => ta σ H fun vs H1 => ∃ k1 k2 k3 a b c xs ys zs, vs = [.ref a, .ref b, .ref c] ∧ SqK K k1 H1 a xs ∧ SqK K k2 H1 b ys ∧ SqK K k3 H1 c zs ∧ R (ItZ3 K k1 k2 k3 a b c) H1
theorem pi_zip3 {X : Cx} {e e2 e3 : Expr} {ta : TA} {p pos tpos : Pos} {elts : List Expr} {kk : Nat} (hg : Gl X "zip") (hm : X.mg "zip" = none) (ha : PA X [e, e2, e3] ta)
    (hs : starEach [e, e2, e3] X.env = (false, eval e X.env) :: starEach [e2, e3] X.env) (hpl : (backTo pos (starEach [e2, e3] X.env)).any (·.1) = false) :
    PI X (.Tuple elts kk tpos) (.Call (.Name "zip" p) [e, e2, e3] [] pos) (iZip3 X.K ta) := by
  refine ⟨fun pins s σ H R I h => ?_⟩
  refine Call_ (ld_blt I hg hm PyProof.Rows.boot_zip (PyProof.Rows.callWith_type1 (thn (ha.run pos pins s σ H _ I h) fun us s1 ⟨vs, H1, I1, r1, q1⟩ => ?_) hs hpl))
  obtain ⟨k1, k2, k3, a, b, c, xs, ys, zs, ex, hqx, hqy, hqz, q⟩ := q1
  subst ex
  cases r1 with
  | cons r rr =>
    cases rr with
    | cons r' rr =>
      cases rr with
      | cons r'' rr =>
        cases rr
        cases r
        cases r'
        cases r''
        obtain ⟨its, rv, p1, la⟩ := inv_kd k1 I1 hqx
        obtain ⟨its2, rv2, p2, lb⟩ := inv_kd k2 I1 hqy
        obtain ⟨its3, rv3, p3, lc⟩ := inv_kd k3 I1 hqz
        refine zip_begins3 (begins_kd k1 a its.toArray) (begins_kd k2 b its2.toArray) (begins_kd k3 c its3.toArray) p1 p2 p3 fun h' hz hTI hTO h1 h2 h3 hsz hk => wpAny_pyIter_zip hz ?_
        have I2 : Inv X pins σ H1 { s1 with heap := h' } := I1.kept (t' := s1.toks) hk
        have S := zip_sep3 (N := s1.heap.objs.size) (fp1 := [a]) (fp2 := [b]) (fp3 := [c]) (fun c hc => by rw [List.mem_singleton.mp hc]; exact la) (fun c hc => by rw [List.mem_singleton.mp hc]; exact lb) (fun c hc => by rw [List.mem_singleton.mp hc]; exact lc)
        have la : (a : Nat) < s1.heap.objs.size := la
        have lb : (b : Nat) < s1.heap.objs.size := lb
        have lc : (c : Nat) < s1.heap.objs.size := lc
        refine ⟨s1.heap.objs.size + 5, [s1.heap.objs.size + 5, s1.heap.objs.size + 3, s1.heap.objs.size + 4, s1.heap.objs.size, s1.heap.objs.size + 1, s1.heap.objs.size + 2], _, _, H1, rfl, I2,
          turn_zipK3 k1 k2 k3 S (Nat.ne_of_lt la) (Nat.ne_of_lt (Nat.lt_succ_of_lt lb)) (Nat.ne_of_lt (Nat.lt_succ_of_lt (Nat.lt_succ_of_lt lc))), ⟨hz, hTI, ⟨_, _, _, hTO⟩, iter_new k1 h1, iter_new k2 h2, iter_new k3 h3⟩, fun d hcm => ?_, q⟩
        have hle : s1.heap.objs.size ≤ d := by
          rcases (by simpa using hcm : d = s1.heap.objs.size + 5 ∨ d = s1.heap.objs.size + 3 ∨ d = s1.heap.objs.size + 4 ∨ d = s1.heap.objs.size ∨ d = s1.heap.objs.size + 1 ∨ d = s1.heap.objs.size + 2) with z | z | z | z | z | z
          · rw [z]; exact Nat.le_add_right _ _
          · rw [z]; exact Nat.le_add_right _ _
          · rw [z]; exact Nat.le_add_right _ _
          · rw [z]; exact Nat.le_refl _
          · rw [z]; exact Nat.le_add_right _ _
          · rw [z]; exact Nat.le_add_right _ _
        exact I1.fpOk hle (I1.hok.fresh hle)
end GB

/-! GBlt: built-ins over plain values: len, sum, all, any, min, max, tuple, list, sorted. -/
namespace GB
open PySem PySem.Spec PyProof.Rows L2
theorem walks_kd {prog : Program} {w : World} {A : Around} (hh : A.handled = none) (k : Kd) (it a : Addr) (hne : a ≠ it) (items : Array Value) :
    Walks prog w A it [it, a] [it] items.size (fun i v => items[i]? = some v) (fun i h => IterK k h it a i ∧ IsK k h a items) := by
  cases k with
  | l => exact Walks.list hh it a hne items
  | t => exact Walks.tuple hh it a hne items
section
variable {prog : Program} {w : World} {A : Around} {E : Value → Shared → Prop} {s : Shared} {a : Addr} {its : List Value} {ns : List Int}
theorem isK_lt (k : Kd) {items : Array Value} (h : IsK k s.heap a items) : a < s.heap.objs.size := by
  cases k with
  | l => obtain ⟨_, e, _⟩ := h; exact Heap.lt_size e
  | t => obtain ⟨_, e, _⟩ := h; exact Heap.lt_size e
theorem isK_push (k : Kd) {items : Array Value} {o : Obj} (h : IsK k s.heap a items) : IsK k (s.heap.push o) a items := by
  cases k with
  | l => exact h.push _
  | t => exact h.push _
theorem iter_kd (k : Kd) {items : Array Value} {Q : Value → Shared → Prop} (hl : IsK k s.heap a items)
    (h : ∀ s₂ : Shared, s₂ = { s with heap := s.heap.push (itObj k a) } → (IterK k s₂.heap s.heap.objs.size a 0 ∧ IsK k s₂.heap a items) → (∀ b ∈ [s.heap.objs.size, a], b < s₂.heap.objs.size) → a ≠ s.heap.objs.size → Q (.ref s.heap.objs.size) s₂) :
    wpAny (model prog w) A (pyIter (.ref a)) Q E s := by
  have hlt := isK_lt k hl
  have hlt' : (a : Nat) < s.heap.objs.size := hlt
  refine (begins_kd k a items).iter prog w A E s Q hl (h _ rfl ⟨iter_new k (Heap.get?_push_size _ (begins_kd k a items).free), isK_push k hl⟩ (fun b hb => ?_) (Nat.ne_of_lt hlt'))
  show b < (s.heap.push _).objs.size
  rw [Heap.size_push]
  rcases (by simpa using hb : b = s.heap.objs.size ∨ b = a) with rfl | rfl
  · exact Nat.lt_succ_self _
  · exact Nat.lt_succ_of_lt hlt
theorem old_kd {h h' : Heap} {o' : Obj} (hk : ∀ b o, b ∉ [h.objs.size] → (h.push o').get? b = some o → h'.get? b = some o) : ∀ b o, h.get? b = some o → h'.get? b = some o := fun b o e =>
  hk b o (fun z => by
    have z' : b = h.objs.size := by simpa using z
    have := Heap.lt_size e
    rw [z'] at this
    exact absurd this (Nat.lt_irrefl _)) (Heap.get?_push_of_some _ e)
theorem sum_kd (k : Kd) {Q : Value → Shared → Prop} (hh : A.handled = none) (hl : IsK k s.heap a its.toArray) (hi : IntsAre its ns)
    (h : ∀ h' tk t', (∀ b o, s.heap.get? b = some o → h'.get? b = some o) → Q (.int ns.sum t') { s with heap := h', toks := tk }) : wpAny (model prog w) A (call (.builtin "sum") [.ref a]) Q E s := by
  obtain ⟨xs, e⟩ := hi.allInts.items
  have hn : numsOf (intItems xs).toList = ns := by rw [← e]; exact hi.numsOf
  rw [nums_intItems] at hn
  rw [e] at hl
  refine call_sum_walkG (iter_kd k hl fun s₂ e st hfp hlI => ?_)
  subst e
  refine ⟨_, _, _, _, _, _, numAt xs, rfl, walks_kd (A := A.in1) hh k _ a hlI (intItems xs), st, hfp, (fun _ _ => intItems_at), fun h' tk t' hk => ?_⟩
  have := h h' tk t' (old_kd hk)
  rw [← hn] at this
  have e2 : preSum (numAt xs) (intItems xs).size = (xs.toList.map (·.1)).sum := by
    rw [show (intItems xs).size = xs.size by simp [intItems], preSum_eq, List.take_of_length_le (by simp)]
  rw [e2]
  exact this
theorem max_kd (k : Kd) {Q : Value → Shared → Prop} (hh : A.handled = none) (hl : IsK k s.heap a its.toArray) (hi : IntsAre its ns) (hne : 0 < ns.length)
    (h : ∀ h' tk M t', (∀ b o, s.heap.get? b = some o → h'.get? b = some o) → M ∈ ns → (∀ a, a ∈ ns → a ≤ M) → Q (.int M t') { s with heap := h', toks := tk }) : wpAny (model prog w) A (call (.builtin "max") [.ref a]) Q E s := by
  obtain ⟨xs, e⟩ := hi.allInts.items
  have hn : numsOf (intItems xs).toList = ns := by rw [← e]; exact hi.numsOf
  rw [nums_intItems] at hn
  subst hn
  rw [e] at hl
  have hsz : 0 < xs.size := by simpa using hne
  refine call_max_walk (iter_kd k hl fun s₂ e st hfp hlI => ?_)
  subst e
  refine ⟨_, _, _, _, _, _, _, rfl, walks_kd (A := A.in1) hh k _ a hlI (intItems xs), st, hfp, by simpa [intItems] using hsz, CmpOf.ints_gt (numAt xs) (fun _ _ => intItems_at), fun v h' tk hP hk => ?_⟩
  have hP' : (intItems xs)[argBest (fun i j => decide (numAt xs i > numAt xs j)) (xs.size - 1)]? = some v := by simpa [intItems] using hP
  obtain ⟨t, rfl⟩ := intItems_at hP'
  obtain ⟨h1, h2⟩ := argBest_gt (numAt xs) (xs.size - 1)
  refine h h' tk _ t (old_kd hk) ?_ fun a ha => ?_
  · rw [numAt_eq]; exact PySem.getD_mem (by rw [List.length_map, Array.length_toList]; omega)
  · obtain ⟨j, hj, rfl⟩ := mem_getD ha
    rw [List.length_map, Array.length_toList] at hj
    rw [← numAt_eq]; exact h2 j (by omega)
theorem min_kd (k : Kd) {Q : Value → Shared → Prop} (hh : A.handled = none) (hl : IsK k s.heap a its.toArray) (hi : IntsAre its ns) (hne : 0 < ns.length)
    (h : ∀ h' tk M t', (∀ b o, s.heap.get? b = some o → h'.get? b = some o) → M ∈ ns → (∀ a, a ∈ ns → M ≤ a) → Q (.int M t') { s with heap := h', toks := tk }) : wpAny (model prog w) A (call (.builtin "min") [.ref a]) Q E s := by
  obtain ⟨xs, e⟩ := hi.allInts.items
  have hn : numsOf (intItems xs).toList = ns := by rw [← e]; exact hi.numsOf
  rw [nums_intItems] at hn
  subst hn
  rw [e] at hl
  have hsz : 0 < xs.size := by simpa using hne
  refine call_min_walk (iter_kd k hl fun s₂ e st hfp hlI => ?_)
  subst e
  refine ⟨_, _, _, _, _, _, _, rfl, walks_kd (A := A.in1) hh k _ a hlI (intItems xs), st, hfp, by simpa [intItems] using hsz, CmpOf.ints_lt (numAt xs) (fun _ _ => intItems_at), fun v h' tk hP hk => ?_⟩
  have hP' : (intItems xs)[argBest (fun i j => decide (numAt xs i < numAt xs j)) (xs.size - 1)]? = some v := by simpa [intItems] using hP
  obtain ⟨t, rfl⟩ := intItems_at hP'
  obtain ⟨h1, h2⟩ := argBest_lt (numAt xs) (xs.size - 1)
  refine h h' tk _ t (old_kd hk) ?_ fun a ha => ?_
  · rw [numAt_eq]; exact PySem.getD_mem (by rw [List.length_map, Array.length_toList]; omega)
  · obtain ⟨j, hj, rfl⟩ := mem_getD ha
    rw [List.length_map, Array.length_toList] at hj
    rw [← numAt_eq]; exact h2 j (by omega)
def kdName : Kd → String
  | .l => "list"
  | .t => "tuple"
theorem isK_at (k : Kd) {items : Array Value} (h : IsK k s.heap a items) : ∃ o n, s.heap.get? a = some o ∧ o.cls = .type (kdName k) ∧ o.data = .seq items n := by
  cases k with
  | l => obtain ⟨o, e, c, n, d⟩ := h; exact ⟨o, n, e, c, d⟩
  | t => obtain ⟨o, e, c, n, d⟩ := h; exact ⟨o, n, e, c, d⟩
theorem collect_kd (k : Kd) {vs : List Value} {Q : List Value → Shared → Prop} (hl : IsK k s.heap a vs.toArray)
    (h : Q vs { s with heap := (s.heap.push (seqObj "list" #[] 0)).update s.heap.objs.size (Obj.mapSeq (· ++ vs.toArray)) }) (hsz : vs.length ≤ sizeLine) :
    wpAny (model prog w) A (collect (.ref a)) Q E s := by
  obtain ⟨o, n, ho, hc, hd⟩ := isK_at k hl
  unfold collect
  refine wpAny_bind (wpAny_runValue (codeAny_builtin entry_proto_collect' ?_))
  show wpAny _ _ (do again (.builtin "list.__iadd__" ⟨[← newList [], .ref a], []⟩)) _ _ s
  refine wpAny_bind (wpAny_newList (wpAny_pure ⟨Code.quiet_builtin _ (by decide +kernel), codeAny_builtin entry_list_iadd' ?_⟩))
  show wpAny _ _ (Builtin.List.listExtendWith (.ref s.heap.objs.size) (.ref a) (.ref s.heap.objs.size)) _ _ { s with heap := s.heap.push (seqObj "list" #[] 0) }
  unfold Builtin.List.listExtendWith
  have ho' : (s.heap.push (seqObj "list" #[] 0)).get? a = some o := Heap.get?_push_of_some _ ho
  refine wpAny_bind (wpAny_typeOf (T := kdName k) ⟨o, ho', hc⟩ ?_)
  have ht : (Value.type (kdName k) == Value.type "list" || Value.type (kdName k) == Value.type "tuple") = true := by cases k <;> rfl
  rw [if_pos (by rw [Bool.or_assoc, ht]; simp)]
  refine wpAny_bind (listItems_at ho' hd ?_)
  refine wpAny_bind (listItems_at (xs := #[]) (n := 0) (Heap.get?_push_size _ rfl) rfl ?_)
  rw [if_neg (by simp)]
  refine wpAny_bind (listUpdate_at (xs := #[]) (n := 0) (Heap.get?_push_size _ rfl) rfl ?_ (Nat.zero_le _) (by show (#[] ++ vs.toArray).size ≤ sizeLine + 1; simp only [Array.size_append, List.size_toArray, List.length_nil]; omega))
  refine wpAny_pure ?_
  show wpAny (model prog w) A (do
      let o ← load s.heap.objs.size
      match o.data with
      | .seq xs _ => pure xs.toList
      | _ => unsupported "internal:collect") Q E { s with heap := (s.heap.push (seqObj "list" #[] 0)).update s.heap.objs.size (Obj.mapSeq (· ++ vs.toArray)) }
  refine wpAny_bind (wpAny_load (get?_update_seq (Heap.get?_push_size _ rfl) _) ?_)
  show wpAny _ _ (pure ((#[] : Array Value) ++ vs.toArray).toList) Q E _
  rw [show ((#[] : Array Value) ++ vs.toArray).toList = vs by simp]
  exact wpAny_pure h
open PySem.W in
theorem sorted_kd {β : Type} {R : Value → β → Prop} {enc : β → PyData} {vs : List Value} {bs : List β} (k : Kd) {Q : Value → Shared → Prop} (hl : IsK k s.heap a vs.toArray) (e : EachIs R vs bs) (er : EachIs (fun v b => ∃ as, Reads s.heap v (enc b) as) vs bs) (hal : AllAlike (bs.map enc)) (hk : Sortable (bs.map enc)) (hL : bs.length ≤ sizeLine)
    (hu : ∀ b, b ∈ bs → A.units + 2 + (enc b).depth < cLine) (h : ∀ out, out.length = bs.length → EachIs R out (bs.mergeSort (dataLe false enc)) → Q (.ref (s.heap.objs.size + 1)) { s with heap := sortedAll s.heap vs (List.toArray out) }) :
    wpAny (model prog w) A (call (.builtin "sorted") [.ref a]) Q E s := by
  have er' : EachIs (fun v b => ∃ as, Reads (sortingHeap (copyHeap s.heap vs) (s.heap.objs.size + 1) vs) v (enc b) as) vs bs := er.mono fun _ _ ⟨as, r⟩ => ⟨as, PyProof.Rows.Reads.keeps (fun _ _ => sorting_copy_old) r⟩
  have hL' : vs.length ≤ sizeLine := by rw [e.length]; exact hL
  have body : ∀ E' : Value → Shared → Prop, wpAny (model prog w) A.in1.in1 (Builtin.«list.sort» ⟨[.ref (s.heap.objs.size + 1)], []⟩) (fun f s' => f = .done (.ret .none) ∧ Q (.ref (s.heap.objs.size + 1)) s') E' { s with heap := copyHeap s.heap vs } := fun E' =>
    list_sort_vals (s := { s with heap := copyHeap s.heap vs }) (copyHeap_at s.heap vs) (SortsAt.data (s := { s with heap := sortingHeap (copyHeap s.heap vs) (s.heap.objs.size + 1) vs }) (each_map (R := fun v d => ∃ as, Reads (sortingHeap (copyHeap s.heap vs) (s.heap.objs.size + 1) vs) v d as) enc er') hal hk (bound_map hu)) hL'
      ⟨rfl, h _ (by rw [sortVals_length false rfl]; exact e.length) (sortVals_data false e er' hal)⟩
  refine call_function_entry_kw kind_sorted plain_sorted entry_sorted (args_sorted1 _) ?_
  unfold Builtin.«sorted»
  refine wpAny_bind (m := checkCount "sorted" 1 1 _) (wpAny_pure ?_)
  refine wpAny_bind (collect_kd k hl ?_ hL')
  refine wpAny_bind (wpAny_newList ?_ hL')
  have hsz : ((s.heap.push (seqObj "list" #[] 0)).update s.heap.objs.size (Obj.mapSeq (· ++ vs.toArray))).objs.size = s.heap.objs.size + 1 := by
    rw [Heap.size_update, size_push']
  show wpAny _ _ _ _ _ { s with heap := copyHeap s.heap vs }
  rw [hsz]
  refine wpAny_bind (wpAny_holding (wpAny_call_entry_kw slot_list_sort ⟨_, copyHeap_at s.heap vs, rfl⟩ entry_list_sort ?bd (args_list_sort _)))
  case bd =>
    show wpAny (model prog w) A.in1.in1 (Builtin.«list.sort» ⟨[.ref (s.heap.objs.size + 1)], []⟩) _ _ _
    refine wpAny_mono (body _) (fun f s' hf => ?_) fun _ _ e => e
    obtain ⟨rfl, hq⟩ := hf
    exact ⟨_, rfl, wpAny_pure ⟨_, rfl, hq⟩⟩
end
/-! ### the rule for a built-in by its name -/
inductive WReps (K : KX) (G : Gh) (H : Hp) : List V → List PV → Prop where
  | nil : WReps K G H [] []
  | cons {v : V} {vs : List V} {x : PV} {xs : List PV} : WRep K G H v x → WReps K G H vs xs → WReps K G H (v :: vs) (x :: xs)
def blTy : Blt → Value
  | .len => .builtin "len" | .sum => .builtin "sum" | .all => .builtin "all" | .any => .builtin "any" | .max => .builtin "max" | .min => .builtin "min"
  | .tuple => .type "tuple" | .list => .type "list" | .sorted => .builtin "sorted" | .int => .type "int" | .str => .type "str"
def rBlt (K : KX) (f : Blt) : List V → Hp → VK → Prop := fun vs H Q => ∃ G st xs z fr, Wr G H st ∧ WReps K G H vs xs ∧ bltop f xs = some (z, fr) ∧ PostV K G H z fr Q
section
variable {X : Cx} {G : Gh} {H : Hp} {st : S} {pins : List (Addr × Obj)} {σ : L2.St} {s : Shared}
theorem seq_kd {K : KX} {v : V} {x : PV} {xs : List PV} (h : WRep K G H v x) (w : Wr G H st) (e : seqOf x = some xs) : ∃ k p vs, v = .ref p ∧ SqK K.K k H p vs ∧ Reps K G H vs xs := by
  cases x <;> simp [seqOf] at e
  · subst e
    obtain ⟨p, vs, rfl, h1, h2⟩ := h.tup
    exact ⟨.t, p, vs, rfl, h1, h2⟩
  · subst e
    obtain ⟨p, vs, rfl, h1, _, h2⟩ := h.lst' w
    exact ⟨.l, p, vs, rfl, .inl (.inl h1), h2⟩
theorem imax_is {m : Int} : ∀ {i : Int} {is : List Int}, m ∈ i :: is → (∀ y ∈ i :: is, y ≤ m) → imax i is = m
  | i, [], h, _ => by
    simp at h
    exact h.symm
  | i, x :: is, h, h2 => by
    unfold imax
    refine imax_is ?_ fun y hy => ?_
    · have hi := h2 i (by simp)
      have hx := h2 x (by simp)
      rcases List.mem_cons.mp h with rfl | h
      · split
        · rename_i c
          have : x = m := by omega
          simp [this]
        · simp
      · rcases List.mem_cons.mp h with rfl | h
        · split
          · simp
          · rename_i c
            have : i = m := by omega
            simp [this]
        · exact List.mem_cons_of_mem _ h
    · rcases List.mem_cons.mp hy with e | hy
      · rw [e]
        split
        · exact h2 x (by simp)
        · exact h2 i (by simp)
      · exact h2 y (by simp [hy])
theorem imin_is {m : Int} : ∀ {i : Int} {is : List Int}, m ∈ i :: is → (∀ y ∈ i :: is, m ≤ y) → imin i is = m
  | i, [], h, _ => by
    simp at h
    exact h.symm
  | i, x :: is, h, h2 => by
    unfold imin
    refine imin_is ?_ fun y hy => ?_
    · have hi := h2 i (by simp)
      have hx := h2 x (by simp)
      rcases List.mem_cons.mp h with rfl | h
      · split
        · rename_i c
          have : x = m := by omega
          simp [this]
        · simp
      · rcases List.mem_cons.mp h with rfl | h
        · split
          · simp
          · rename_i c
            have : i = m := by omega
            simp [this]
        · exact List.mem_cons_of_mem _ h
    · rcases List.mem_cons.mp hy with e | hy
      · rw [e]
        split
        · exact h2 x (by simp)
        · exact h2 i (by simp)
      · exact h2 y (by simp [hy])
theorem wreps1 {K : KX} {vs : List V} {x : PV} (h : WReps K G H vs [x]) : ∃ v, vs = [v] ∧ WRep K G H v x := by
  cases h with
  | cons a b => cases b; exact ⟨_, rfl, a⟩
theorem wreps2 {K : KX} {vs : List V} {x y : PV} (h : WReps K G H vs [x, y]) : ∃ v w, vs = [v, w] ∧ WRep K G H v x ∧ WRep K G H w y := by
  cases h with
  | cons a b => cases b with | cons c d => cases d; exact ⟨_, _, rfl, a, c⟩
def oD (o : Option PyData) : PyData := match o with | some d => d | none => .none
theorem toDs_map : ∀ {xs : List PV} {ds : List PyData}, PV.toDs xs = some ds → ds = xs.map (fun x => oD x.toD) ∧ ∀ x ∈ xs, ∃ d, x.toD = some d
  | [], ds, h => by
    cases h
    exact ⟨rfl, fun x hx => by cases hx⟩
  | x :: xs, ds, h => by
    unfold PV.toDs at h
    cases q : x.toD with
    | none => rw [q] at h; cases h
    | some d =>
      cases q2 : PV.toDs xs with
      | none => rw [q, q2] at h; cases h
      | some es =>
        rw [q, q2] at h
        cases h
        obtain ⟨h1, h2⟩ := toDs_map q2
        refine ⟨by rw [List.map_cons, q, ← h1]; rfl, fun y hy => ?_⟩
        rcases List.mem_cons.mp hy with rfl | hy
        · exact ⟨d, q⟩
        · exact h2 y hy
theorem reps_zip {K : KX} : ∀ {vs : List V} {xs : List PV}, Reps K G H vs xs → ∀ p ∈ vs.zip xs, Rep K G H p.1 p.2
  | _, _, .nil, p, h => by simp at h
  | _, _, .cons a b, p, h => by
    rw [List.zip_cons_cons] at h
    rcases List.mem_cons.mp h with rfl | h
    · exact a
    · exact reps_zip b p h
theorem reps_of {K : KX} : ∀ {ps : List (V × PV)}, (∀ p ∈ ps, Rep K G H p.1 p.2) → Reps K G H (ps.map (·.1)) (ps.map (·.2))
  | [], _ => .nil
  | p :: ps, h => .cons (h p (by simp)) (reps_of fun q hq => h q (by simp [hq]))
theorem vals_each : ∀ {ps : List (V × PV)} {us : List Value}, W.EachIs (fun u (p : V × PV) => RelV p.1 u) us ps → Vals (ps.map (·.1)) us
  | [], us, h => by cases h; exact .nil
  | p :: ps, us, h => by
    cases h with
    | cons a b => exact .cons a (vals_each b)
theorem each_vals : ∀ {vs : List V} {xs : List PV} {us : List Value}, vs.length = xs.length → Vals vs us → W.EachIs (fun u (p : V × PV) => RelV p.1 u) us (vs.zip xs)
  | [], [], us, _, h => by cases h; exact .nil
  | v :: vs, x :: xs, us, hl, h => by
    cases h with
    | cons a b => exact .cons a (each_vals (by simpa using hl) b)
theorem call_sortedP (hu : X.A.units + 130 < cLine) : CallR X (.builtin "sorted") (fun vs H Q => ∃ G st x xs ds, Wr G H st ∧ WReps X.kx G H vs [x] ∧ seqOf x = some xs ∧ PV.toDs xs = some ds ∧ sortOk ds = true ∧ PostV X.kx G H (.lst (xs.mergeSort sortLe)) true Q) := by
  intro pins s σ H vs us Q I rs h
  obtain ⟨G, st, x, xs, ds, w, wr, e1, e2, so, q⟩ := h
  obtain ⟨v, rfl, wx⟩ := wreps1 wr
  obtain ⟨k, p, ws, rfl, hk, r⟩ := seq_kd wx w e1
  obtain ⟨its, rv, isk, _⟩ := inv_kd k I hk
  obtain ⟨u, rfl, ru⟩ := vals1 rs
  cases ru
  obtain ⟨em, hd⟩ := toDs_map e2
  unfold sortOk at so
  simp only [Bool.and_eq_true, Bool.or_eq_true] at so
  obtain ⟨⟨⟨s1, s2⟩, s3⟩, s4⟩ := so
  have lw := r.length
  have hz : (ws.zip xs).map (·.2) = xs := List.map_snd_zip (by omega)
  have hz1 : (ws.zip xs).map (·.1) = ws := List.map_fst_zip (by omega)
  have enc : (ws.zip xs).map (fun p => oD p.2.toD) = ds := by
    rw [em]
    conv => rhs; rw [← hz]
    rw [List.map_map]
    rfl
  have ll : ds.length = xs.length := by rw [em, List.length_map]
  refine sorted_kd (β := V × PV) (R := fun u p => RelV p.1 u) (enc := fun p => oD p.2.toD) (bs := ws.zip xs) k isk (each_vals lw rv) ?_ ?_ ?_ ?_ ?_ fun out hl ho => ?_
  · refine W.EachIs.of_zip (by rw [List.length_zip, ← rv.length]; omega) fun pr hpr => ?_
    have h1 := W.EachIs.zip (each_vals lw rv) pr hpr
    have hm : pr.2 ∈ ws.zip xs := (List.of_mem_zip hpr).2
    have rp := reps_zip r _ hm
    obtain ⟨d, hd'⟩ := hd _ (List.of_mem_zip hm).2
    rw [hd']
    exact Dp.reads I d _ _ (rp.dp hd') h1
  · rw [enc]
    intro d hd d' hd'
    exact List.all_eq_true.mp (List.all_eq_true.mp s1 d hd) d' hd'
  · rw [enc]
    rcases s4 with s4 | s4
    · refine .inl fun d hd => ?_
      have := List.all_eq_true.mp s4 d hd
      split at this
      · exact ⟨_, _, rfl⟩
      · cases this
    · refine .inr fun d hd => ?_
      have := List.all_eq_true.mp s4 d hd
      split at this
      · exact ⟨fun z => (by cases z), fun _ z => (by cases z)⟩
      · cases this
  · have := of_decide_eq_true s3
    rw [List.length_zip]
    exact Nat.le_of_lt (Nat.lt_of_le_of_lt (Nat.min_le_right _ _) (lim_line (ll ▸ this)))
  · intro b hb
    have : oD b.2.toD ∈ ds := by rw [← enc]; exact List.mem_map.mpr ⟨b, hb, rfl⟩
    have := of_decide_eq_true (List.all_eq_true.mp s2 _ this)
    omega
  · obtain ⟨e, he⟩ := sortedAll_at s.heap its (List.toArray out)
    have hmap : ((ws.zip xs).mergeSort (W.dataLe false fun p => oD p.2.toD)).map (·.2) = xs.mergeSort sortLe := by
      rw [W.sort_maps (f := fun p : V × PV => p.2) (s := sortLe) (fun a ha b hb => ?_), hz]
      obtain ⟨d1, h1⟩ := hd _ (List.of_mem_zip ha).2
      obtain ⟨d2, h2⟩ := hd _ (List.of_mem_zip hb).2
      unfold sortLe
      rw [h1, h2]
      show (!W.dataLt (oD b.2.toD) (oD a.2.toD)) = _
      rw [h1, h2]
      rfl
    have hp : ((ws.zip xs).mergeSort (W.dataLe false fun p => oD p.2.toD)).Perm (ws.zip xs) := List.mergeSort_perm _ _
    have rr : Reps X.kx G H (((ws.zip xs).mergeSort (W.dataLe false fun p => oD p.2.toD)).map (·.1)) (xs.mergeSort sortLe) := by
      rw [← hmap]
      exact reps_of fun p hp' => reps_zip r p (hp.mem_iff.mp hp')
    have hlen : (((ws.zip xs).mergeSort (W.dataLe false fun p => oD p.2.toD)).map (·.1)).length ≤ sizeLine := by
      have := of_decide_eq_true s3
      rw [List.length_map, hp.length_eq, List.length_zip]
      exact Nat.le_of_lt (Nat.lt_of_le_of_lt (Nat.min_le_right _ _) (lim_line (ll ▸ this)))
    have I1 : Inv X pins σ (upd H (s.heap.objs.size + 1) (.lst (((ws.zip xs).mergeSort (W.dataLe false fun p => oD p.2.toD)).map (·.1)))) { s with heap := sortedAll s.heap its (List.toArray out) } :=
      I.laid (t' := s.toks) (fun b o hb => sortedAll_old hb) (Nat.le_succ _) ⟨hlen, out, e, vals_each ho, he⟩
    exact ⟨.ref (s.heap.objs.size + 1), _, I1, rfl, q.lst w rr (I.hok.fresh (Nat.le_succ _))⟩
theorem pw_val {K : KX} {z : PV} {Q : VK} (q : PostV K G H z false Q) {v : V} (r : Rep K G H v z) {pins : List (Addr × Obj)} {σ : L2.St} {X : Cx} {s : Shared} {u : Value} (I : Inv X pins σ H s) (ru : RelV v u) : EP X pins σ Q u s := ⟨v, H, I, ru, q.val r⟩
theorem ints_at {K : KX} {vs : List V} {xs : List PV} {is : List Int} (r : Reps K G H vs xs) (e : intsOf xs = some is) {us : List Value} (rv : Vals vs us) : IntsAre us is := by
  have := r.intsOf e
  subst this
  exact rv.ints
theorem call_sumP (hc : X.calm = true) : CallR X (.builtin "sum") (fun vs H Q => ∃ G st x xs is, Wr G H st ∧ WReps X.kx G H vs [x] ∧ seqOf x = some xs ∧ intsOf xs = some is ∧ PostV X.kx G H (.int is.sum) false Q) := by
  intro pins s σ H vs us Q I rs h
  obtain ⟨G, st, x, xs, is, w, wr, e1, e2, q⟩ := h
  obtain ⟨v, rfl, wx⟩ := wreps1 wr
  obtain ⟨k, p, ws, rfl, hk, r⟩ := seq_kd wx w e1
  obtain ⟨its, rv, isk, _⟩ := inv_kd k I hk
  obtain ⟨u, rfl, ru⟩ := vals1 rs
  cases ru
  exact sum_kd k (I.ok.hd hc) isk (ints_at r e2 rv) fun h' tk t' hk' => ⟨.int is.sum, H, I.kept hk', ⟨_, rfl⟩, q.val (.int _)⟩
theorem call_maxP (hc : X.calm = true) : CallR X (.builtin "max") (fun vs H Q => ∃ G st x xs i is, Wr G H st ∧ WReps X.kx G H vs [x] ∧ seqOf x = some xs ∧ intsOf xs = some (i :: is) ∧ PostV X.kx G H (.int (imax i is)) false Q) := by
  intro pins s σ H vs us Q I rs h
  obtain ⟨G, st, x, xs, i, is, w, wr, e1, e2, q⟩ := h
  obtain ⟨v, rfl, wx⟩ := wreps1 wr
  obtain ⟨k, p, ws, rfl, hk, r⟩ := seq_kd wx w e1
  obtain ⟨its, rv, isk, _⟩ := inv_kd k I hk
  obtain ⟨u, rfl, ru⟩ := vals1 rs
  cases ru
  exact max_kd k (I.ok.hd hc) isk (ints_at r e2 rv) (by simp) fun h' tk M t' hk' h1 h2 => ⟨.int M, H, I.kept hk', ⟨_, rfl⟩, by rw [imax_is h1 h2] at q; exact q.val (.int _)⟩
theorem call_minP (hc : X.calm = true) : CallR X (.builtin "min") (fun vs H Q => ∃ G st x xs i is, Wr G H st ∧ WReps X.kx G H vs [x] ∧ seqOf x = some xs ∧ intsOf xs = some (i :: is) ∧ PostV X.kx G H (.int (imin i is)) false Q) := by
  intro pins s σ H vs us Q I rs h
  obtain ⟨G, st, x, xs, i, is, w, wr, e1, e2, q⟩ := h
  obtain ⟨v, rfl, wx⟩ := wreps1 wr
  obtain ⟨k, p, ws, rfl, hk, r⟩ := seq_kd wx w e1
  obtain ⟨its, rv, isk, _⟩ := inv_kd k I hk
  obtain ⟨u, rfl, ru⟩ := vals1 rs
  cases ru
  exact min_kd k (I.ok.hd hc) isk (ints_at r e2 rv) (by simp) fun h' tk M t' hk' h1 h2 => ⟨.int M, H, I.kept hk', ⟨_, rfl⟩, by rw [imin_is h1 h2] at q; exact q.val (.int _)⟩
theorem call_blt (hc : X.calm = true) (hu : X.A.units + 130 < cLine) (f : Blt) : CallR X (blTy f) (rBlt X.kx f) := by
  intro pins s σ H vs us Q I rs h
  obtain ⟨G, st, xs, z, fr, w, wr, e, q⟩ := h
  cases f with
  | len =>
    unfold bltop at e
    split at e <;> try contradiction
    · cases e
      obtain ⟨v, rfl, wx⟩ := wreps1 wr
      obtain ⟨p, ws, rfl, h1, r⟩ := wx.tup
      exact call_len_seq pins s σ H _ us Q I rs ⟨p, ws, rfl, .inr h1, by rw [r.length]; exact q.val (.int _)⟩
    · cases e
      obtain ⟨v, rfl, wx⟩ := wreps1 wr
      obtain ⟨p, ws, rfl, h1, _, r⟩ := wx.lst' w
      exact call_len_seq pins s σ H _ us Q I rs ⟨p, ws, rfl, .inl (.inl (.inl h1)), by rw [r.length]; exact q.val (.int _)⟩
    · cases e
      obtain ⟨v, rfl, wx⟩ := wreps1 wr
      obtain ⟨p, rfl, h1⟩ := wx.scr
      exact call_len_seq pins s σ H _ us Q I rs ⟨p, _, rfl, .inl h1, by rw [List.length_map]; exact q.val (.int _)⟩
    · split at e
      · rename_i hl
        cases e
        obtain ⟨v, rfl, wx⟩ := wreps1 wr
        rw [wx.str] at rs
        exact call_len_str pins s σ H _ us Q I rs ⟨_, rfl, Nat.le_of_lt (lim_line hl), q.val (.int _)⟩
      · cases e
  | sum =>
    unfold bltop at e
    split at e <;> try contradiction
    split at e <;> try contradiction
    rename_i h1
    split at e <;> try contradiction
    rename_i h2
    cases e
    exact call_sumP hc pins s σ H vs us Q I rs ⟨G, st, _, _, _, w, wr, h1, h2, q⟩
  | all =>
    unfold bltop at e
    split at e <;> try contradiction
    split at e <;> try contradiction
    rename_i h2
    cases e
    obtain ⟨v, rfl, wx⟩ := wreps1 wr
    obtain ⟨p, ws, rfl, h1, _, r⟩ := wx.lst' w
    have := r.bools h2
    subst this
    exact cr_all hc pins s σ H _ us Q I rs ⟨p, _, rfl, .inl (.inl h1), q.val (.bl _)⟩
  | any =>
    unfold bltop at e
    split at e <;> try contradiction
    split at e <;> try contradiction
    rename_i h2
    cases e
    obtain ⟨v, rfl, wx⟩ := wreps1 wr
    obtain ⟨p, ws, rfl, h1, _, r⟩ := wx.lst' w
    have := r.bools h2
    subst this
    exact cr_any hc pins s σ H _ us Q I rs ⟨p, _, rfl, .inl (.inl h1), q.val (.bl _)⟩
  | max =>
    unfold bltop at e
    split at e <;> try contradiction
    · cases e
      obtain ⟨v, v', rfl, wx, wy⟩ := wreps2 wr
      rw [wx.int, wy.int] at rs
      exact call_max2 hc pins s σ H _ us Q I rs ⟨_, _, rfl, q.val (.int _)⟩
    · split at e <;> try contradiction
      rename_i h1
      split at e <;> try contradiction
      rename_i h2
      cases e
      exact call_maxP hc pins s σ H vs us Q I rs ⟨G, st, _, _, _, _, w, wr, h1, h2, q⟩
  | min =>
    unfold bltop at e
    split at e <;> try contradiction
    · cases e
      obtain ⟨v, v', rfl, wx, wy⟩ := wreps2 wr
      rw [wx.int, wy.int] at rs
      exact call_min2 hc pins s σ H _ us Q I rs ⟨_, _, rfl, q.val (.int _)⟩
    · split at e <;> try contradiction
      rename_i h1
      split at e <;> try contradiction
      rename_i h2
      cases e
      exact call_minP hc pins s σ H vs us Q I rs ⟨G, st, _, _, _, _, w, wr, h1, h2, q⟩
  | tuple =>
    unfold bltop at e
    split at e <;> try contradiction
    · cases e
      obtain ⟨v, rfl, wx⟩ := wreps1 wr
      obtain ⟨p, ws, rfl, h1, r⟩ := wx.tup
      exact call_tuple_of pins s σ H _ us Q I rs ⟨p, ws, rfl, .inr ⟨h1, q.val (.tup h1 r)⟩⟩
    · cases e
      obtain ⟨v, rfl, wx⟩ := wreps1 wr
      obtain ⟨p, ws, rfl, h1, _, r⟩ := wx.lst' w
      exact call_tuple_of pins s σ H _ us Q I rs ⟨p, ws, rfl, .inl ⟨.inl (.inl h1), fun l hl => q.tup w r hl⟩⟩
  | list =>
    unfold bltop at e
    split at e <;> try contradiction
    · cases e
      obtain ⟨v, rfl, wx⟩ := wreps1 wr
      obtain ⟨p, ws, rfl, h1, r⟩ := wx.tup
      exact call_list_of pins s σ H _ us Q I rs ⟨p, ws, rfl, .inr h1, fun l hl => q.lst w r hl⟩
    · cases e
      obtain ⟨v, rfl, wx⟩ := wreps1 wr
      obtain ⟨p, ws, rfl, h1, _, r⟩ := wx.lst' w
      exact call_list_of pins s σ H _ us Q I rs ⟨p, ws, rfl, .inl (.inl (.inl h1)), fun l hl => q.lst w r hl⟩
  | sorted =>
    unfold bltop at e
    split at e <;> try contradiction
    split at e <;> try contradiction
    rename_i h1
    split at e <;> try contradiction
    rename_i h2
    split at e <;> try contradiction
    rename_i h3
    cases e
    exact call_sortedP hu pins s σ H vs us Q I rs ⟨G, st, _, _, _, w, wr, h1, h2, h3, q⟩
  | int => unfold bltop at e; split at e <;> contradiction
  | str => unfold bltop at e; split at e <;> contradiction
end
end GB

/-! GWp: what is to be shown of a reckoning; contexts. -/
namespace GB
open PySem PySem.Spec PyProof.Rows L2

/-! ### reckonings -/
def wpM {α : Type} (m : M α) (s : S) (ok : α → S → Prop) (ex : Nat → S → Prop) : Prop := match m s with
  | .stuck => False
  | .ok a s' => ok a s'
  | .exc k s' => ex k s'
theorem wpM_ret {α : Type} {a : α} {s : S} {ok : α → S → Prop} {ex : Nat → S → Prop} : wpM (M.ret a) s ok ex = ok a s := rfl
theorem wpM_bind {α β : Type} {m : M α} {f : α → M β} {s : S} {ok : β → S → Prop} {ex : Nat → S → Prop} : wpM (M.bind m f) s ok ex = wpM m s (fun a s' => wpM (f a) s' ok ex) ex := by
  unfold wpM M.bind
  cases m s <;> rfl
theorem wpM_ofO {α : Type} {o : Option α} {s : S} {ok : α → S → Prop} {ex : Nat → S → Prop} (h : wpM (ofO o) s ok ex) : ∃ a, o = some a ∧ ok a s := by
  cases o with
  | none => exact h.elim
  | some a => exact ⟨a, rfl, h⟩
theorem wpM_mono {α : Type} {m : M α} {s : S} {ok ok' : α → S → Prop} {ex ex' : Nat → S → Prop} (h : wpM m s ok ex) (h1 : ∀ a s', ok a s' → ok' a s') (h2 : ∀ k s', ex k s' → ex' k s') : wpM m s ok' ex' := by
  unfold wpM at h ⊢
  cases q : m s with
  | stuck => rw [q] at h; exact h.elim
  | ok a s' => rw [q] at h; exact h1 a s' h
  | exc k s' => rw [q] at h; exact h2 k s' h
theorem wpM_noexc {α : Type} {m : M α} {s : S} {ok : α → S → Prop} {ex ex' : Nat → S → Prop} (h : wpM (M.noexc m) s ok ex) : wpM m s ok (fun _ _ => False) := by
  unfold wpM M.noexc at h
  unfold wpM
  cases q : m s with
  | stuck => rw [q] at h; exact h.elim
  | ok a s' => rw [q] at h; exact h
  | exc k s' => rw [q] at h; exact h.elim

/-! ### slots -/
structure EnvOk (K : KX) (G : Gh) (env : Envi) (σ : L2.St) (H : Hp) : Prop where
  kk : G.k = K
  len : env.length = σ.length
  fz : ∀ (i : Nat) (x : PV), env[i]? = some (some (x, false)) → ∃ v, σ[i]? = some (some v) ∧ Rep K G H v x
  ow : ∀ (i : Nat) (x : PV), env[i]? = some (some (x, true)) → ∃ p vs xs, σ[i]? = some (some (.ref p)) ∧ x = .lst xs ∧ ¬ G.mut p ∧ ¬ G.L p ∧ H p = some (.lst vs) ∧ Reps K G H vs xs
  di : ∀ (i j : Nat) (x y : PV) (p : Addr), i ≠ j → env[i]? = some (some (x, true)) → env[j]? = some (some (y, true)) → σ[i]? = some (some (.ref p)) → σ[j]? ≠ some (some (.ref p))
section
variable {K : KX} {G G' : Gh} {H H' : Hp} {st st' : S} {env : Envi} {σ : L2.St}
theorem EnvOk.mono (e : EnvOk K G env σ H) (w : Wr G H st) (a : After G H st' G' H') : EnvOk K G' env σ H' := by
  refine ⟨a.le.k.trans e.kk, e.len, fun i x h => ?_, fun i x h => ?_, e.di⟩
  · obtain ⟨v, h1, h2⟩ := e.fz i x h
    exact ⟨v, h1, h2.mono w a.le a.keep⟩
  · obtain ⟨p, vs, xs, h1, h2, h3, h4, h5, h6⟩ := e.ow i x h
    exact ⟨p, vs, xs, h1, h2, a.le.not_mut h5 h3, a.le.not_L h5 h4, a.keep _ _ h3 h5, h6.mono w a.le a.keep⟩
theorem EnvOk.get (e : EnvOk K G env σ H) {i : Nat} {x : PV} {b : Bool} (h : env[i]? = some (some (x, b))) : ∃ v, σ[i]? = some (some v) ∧ WRep K G H v x := by
  cases b with
  | false =>
    obtain ⟨v, h1, h2⟩ := e.fz i x h
    exact ⟨v, h1, .rep h2⟩
  | true =>
    obtain ⟨p, vs, xs, h1, rfl, h3, h4, h5, h6⟩ := e.ow i x h
    exact ⟨_, h1, .lst h3 h5 h6⟩
end

/-! ### readings -/
/-- what follows an exception of class k -/
def EXC (ec : Nat → Option Value) (W : WX) (σ : L2.St) (G : Gh) (H : Hp) : Nat → S → Prop := fun k st' => ∀ G' H' cls, After G H st' G' H' → ec k = some cls → W cls none σ H'
theorem EXC.mono {ec : Nat → Option Value} {W : WX} {σ : L2.St} {G G1 : Gh} {H H1 : Hp} {st st1 : S} (w : Wr G H st) (a : After G H st1 G1 H1) {k : Nat} {st' : S} (h : EXC ec W σ G H k st') : EXC ec W σ G1 H1 k st' :=
  fun G' H' cls b hc => h G' H' cls (a.trans w b) hc
def OKE (K : KX) (G : Gh) (H : Hp) (Q : VK) : PV × Bool → S → Prop := fun r st' => ∀ G' H' v, After G H st' G' H' → ResOk K H G' H' v r.1 r.2 → Q v H'
def OKB (K : KX) (G : Gh) (H : Hp) (Q : VK) : PV → S → Prop := fun x st' => ∀ G' H' v, After G H st' G' H' → WRep K G' H' v x → Q v H'
def TEv (K : KX) (ec : Nat → Option Value) (Γ : Gam) (W : WX) (m : Ex) : TE := fun σ H Q => ∃ G env st, Wr G H st ∧ EnvOk K G env σ H ∧ wpM (evE Γ false m env) st (OKE K G H Q) (EXC ec W σ G H)
def TBv (K : KX) (ec : Nat → Option Value) (Γ : Gam) (W : WX) (m : Ex) : TE := fun σ H Q => ∃ G env st, Wr G H st ∧ EnvOk K G env σ H ∧ wpM (evalB Γ m env) st (OKB K G H Q) (EXC ec W σ G H)
/-- a test -/
def TTv (K : KX) (ec : Nat → Option Value) (Γ : Gam) (W : WX) (m : Ex) : TT := fun σ H Q => ∃ G env st, Wr G H st ∧ EnvOk K G env σ H ∧ wpM (evalB Γ m env) st (fun x st' => ∃ b, x = .bl b ∧ ∀ G' H', After G H st' G' H' → Q b H') (EXC ec W σ G H)

/-- the working place of a rule: where one stands, and what is left to reckon -/
structure Pl (K : KX) (ec : Nat → Option Value) (W : WX) (σ : L2.St) (env : Envi) (G : Gh) (H : Hp) (st : S) (G₁ : Gh) (H₁ : Hp) (st₁ : S) : Prop where
  w : Wr G H st
  e : EnvOk K G env σ H
  a : After G H st₁ G₁ H₁
section
variable {K : KX} {ec : Nat → Option Value} {Γ : Gam} {W : WX} {σ : L2.St} {env : Envi} {G G₁ : Gh} {H H₁ : Hp} {st st₁ : S}
theorem Pl.start (w : Wr G H st) (e : EnvOk K G env σ H) : Pl K ec W σ env G H st G H st := ⟨w, e, After.refl w⟩
theorem Pl.ev (p : Pl K ec W σ env G H st G₁ H₁ st₁) : EnvOk K G₁ env σ H₁ := p.e.mono p.w p.a
theorem Pl.step (p : Pl K ec W σ env G H st G₁ H₁ st₁) {G2 : Gh} {H2 : Hp} {st2 : S} (b : After G₁ H₁ st2 G2 H2) : Pl K ec W σ env G H st G2 H2 st2 := ⟨p.w, p.e, p.a.trans p.w b⟩
/-- the next part, lent -/
theorem Pl.bindB {β : Type} {m : Ex} {f : PV → M β} {ok : β → S → Prop} {R : VK} (p : Pl K ec W σ env G H st G₁ H₁ st₁) (h : wpM (M.bind (evalB Γ m env) f) st₁ ok (EXC ec W σ G H))
    (k : ∀ x st2 G2 H2 v, Pl K ec W σ env G H st G2 H2 st2 → After G₁ H₁ st2 G2 H2 → WRep K G2 H2 v x → wpM (f x) st2 ok (EXC ec W σ G H) → R v H2) : TBv K ec Γ W m σ H₁ R := by
  rw [wpM_bind] at h
  exact ⟨G₁, env, st₁, p.a.wr, p.ev, wpM_mono h (fun x st2 q G2 H2 v b r => k x st2 G2 H2 v (p.step b) b r q) fun kk st2 q => EXC.mono p.w p.a q⟩
/-- the next part, whole -/
theorem Pl.bindE {β : Type} {m : Ex} {f : PV × Bool → M β} {ok : β → S → Prop} {R : VK} (p : Pl K ec W σ env G H st G₁ H₁ st₁) (h : wpM (M.bind (evE Γ false m env) f) st₁ ok (EXC ec W σ G H))
    (k : ∀ r st2 G2 H2 v, Pl K ec W σ env G H st G2 H2 st2 → After G₁ H₁ st2 G2 H2 → ResOk K H₁ G2 H2 v r.1 r.2 → wpM (f r) st2 ok (EXC ec W σ G H) → R v H2) : TEv K ec Γ W m σ H₁ R := by
  rw [wpM_bind] at h
  exact ⟨G₁, env, st₁, p.a.wr, p.ev, wpM_mono h (fun x st2 q G2 H2 v b r => k x st2 G2 H2 v (p.step b) b r q) fun kk st2 q => EXC.mono p.w p.a q⟩
theorem Pl.bindT {β : Type} {m : Ex} {f : Bool → M β} {ok : β → S → Prop} {R : Bool → Hp → Prop} (p : Pl K ec W σ env G H st G₁ H₁ st₁) (h : wpM (M.bind (evalB Γ m env) fun x => M.bind (ofO (asBool x)) f) st₁ ok (EXC ec W σ G H))
    (k : ∀ b st2 G2 H2, Pl K ec W σ env G H st G2 H2 st2 → After G₁ H₁ st2 G2 H2 → wpM (f b) st2 ok (EXC ec W σ G H) → R b H2) : TTv K ec Γ W m σ H₁ R := by
  rw [wpM_bind] at h
  refine ⟨G₁, env, st₁, p.a.wr, p.ev, wpM_mono h (fun x st2 q => ?_) fun kk st2 q => EXC.mono p.w p.a q⟩
  rw [wpM_bind] at q
  obtain ⟨b, e, q⟩ := wpM_ofO q
  cases x <;> try contradiction
  cases e
  exact ⟨_, rfl, fun G2 H2 b => k _ st2 G2 H2 (p.step b) b q⟩
/-- the end of an operator that keeps the state -/
theorem Pl.post (p : Pl K ec W σ env G H st G₁ H₁ st₁) {z : PV} {fr : Bool} {Q : VK} (q : OKE K G H Q (z, fr) st₁) : PostV K G₁ H₁ z fr Q := fun G' H' v l k wr r => by
  have b : After G₁ H₁ st₁ G' H' := ⟨l, k, wr st₁ p.a.wr⟩
  refine q G' H' v (p.a.trans p.w b) ?_
  unfold ResOk at r ⊢
  cases fr with
  | false =>
    rw [if_neg Bool.false_ne_true] at r ⊢
    exact r
  | true =>
    rw [if_pos rfl] at r ⊢
    obtain ⟨a, vs, xs, h1, h2, h3, h4, h5, h6, h7⟩ := r
    exact ⟨a, vs, xs, h1, h2, h3, h4, p.a.keep.dom p.w p.a.le p.a.wr h5, h6, h7⟩
theorem Pl.val (p : Pl K ec W σ env G H st G₁ H₁ st₁) {z : PV} {Q : VK} (q : OKE K G H Q (z, false) st₁) {v : V} (r : Rep K G₁ H₁ v z) : Q v H₁ := (p.post q).val r
end
theorem PE_imp {X : Cx} {e : Expr} {t t' : TE} (h : PE X e t) (i : ∀ σ H Q, t' σ H Q → t σ H Q) : PE X e t' := ⟨fun pins s σ H Q I q => h.run pins s σ H Q I (i σ H Q q)⟩
theorem PT_imp {X : Cx} {e : Expr} {t t' : TT} (h : PT X e t) (i : ∀ σ H Q, t' σ H Q → t σ H Q) : PT X e t' := ⟨fun pins s σ H Q I q => h.run pins s σ H Q I (i σ H Q q)⟩
theorem PW_imp {X : Cx} {e : Expr} {t t' : TT} (h : PW X e t) (i : ∀ σ H Q, t' σ H Q → t σ H Q) : PW X e t' := ⟨fun wh pins s σ H Q I q => h.run wh pins s σ H Q I (i σ H Q q)⟩
theorem PA_imp {X : Cx} {e : List Expr} {t t' : TA} (h : PA X e t) (i : ∀ σ H Q, t' σ H Q → t σ H Q) : PA X e t' := ⟨fun pos pins s σ H Q I q => h.run pos pins s σ H Q I (i σ H Q q)⟩
theorem PA_or {X : Cx} {e : List Expr} {t t' : TA} (h : PA X e t) (h' : PA X e t') : PA X e (fun σ H Q => t σ H Q ∨ t' σ H Q) := ⟨fun pos pins s σ H Q I q => q.elim (h.run pos pins s σ H Q I) (h'.run pos pins s σ H Q I)⟩
theorem PI_imp {X : Cx} {tg e : Expr} {t t' : TI} (h : PI X tg e t) (i : ∀ σ H Q, t' σ H Q → t σ H Q) : PI X tg e t' := ⟨fun pins s σ H Q I q => h.run pins s σ H Q I (i σ H Q q)⟩
theorem PI_or {X : Cx} {tg e : Expr} {t t' : TI} (h : PI X tg e t) (h' : PI X tg e t') : PI X tg e (fun σ H Q => t σ H Q ∨ t' σ H Q) := ⟨fun pins s σ H Q I q => q.elim (h.run pins s σ H Q I) (h'.run pins s σ H Q I)⟩
theorem PS_imp {X : Cx} {e : Stmt} {t t' : TS} (h : PS X e t) (i : ∀ D σ H, t' D σ H → t D σ H) : PS X e t' := ⟨fun pins s σ H D I q => h.run pins s σ H D I (i D σ H q)⟩
theorem PSs_imp {X : Cx} {e : List Stmt} {t t' : TS} (h : PSs X e t) (i : ∀ D σ H, t' D σ H → t D σ H) : PSs X e t' := ⟨fun pins s σ H D I q => h.run pins s σ H D I (i D σ H q)⟩

/-! ### promises -/
/-- the promise of a def that reckons g -/
def spOf (K : KX) (ec : Nat → Option Value) (g : List PV → M (PV × Bool)) : Sp := fun vs H Q E => ∃ G xs st, Wr G H st ∧ G.k = K ∧ Reps K G H vs xs ∧
  wpM (g xs) st (OKE K G H Q) (fun k st' => ∀ G' H' cls, After G H st' G' H' → ec k = some cls → E cls none H')
def bltName : Blt → Str
  | .len => "len" | .sum => "sum" | .all => "all" | .any => "any" | .max => "max" | .min => "min" | .tuple => "tuple" | .list => "list" | .sorted => "sorted" | .int => "int" | .str => "str"
def bltNames : List Str := ["len", "sum", "all", "any", "max", "min", "tuple", "list", "sorted", "int", "str", "isinstance", "range", "enumerate", "zip", "bool", "ValueError"]
/-- a class of the text -/
structure ClsCtx (X : Cx) (c : Nat) : Prop where
  cl : Cls X.K (He.ga X.K (clsName c))
  na : ∀ f ∈ clsFlds c, NoAttr X.K (He.ga X.K (clsName c)) f
  mkr : Mk X.K (He.ga X.K (clsName c)) (He.ma X.K (He.ga X.K (clsName c)) "__init__")
  mg : X.mg (clsName c) = some (.ref (He.ga X.K (clsName c)))
structure Ctx (ec : Nat → Option Value) (FT GT : Nat → Option Str) (MT : Nat → Option (Nat × Str)) (CT : Nat → Bool) (Γ : Gam) (X : Cx) (W : WX) (sc csc : Scope) (N : List Str) : Prop where
  hsc : X.env.scope = sc
  hN : X.N = N
  nd : N.Nodup
  calm : X.calm = true
  tk : Takes X W
  hu : X.A.units + 130 < cLine
  bn : ∀ x ∈ bltNames, X.mg x = none
  fn : ∀ f g, Γ.fn f = some g → ∃ x a fd ps k, FT f = some x ∧ (x == ("__debug__" : Str)) = false ∧ X.mg x = some (.ref a) ∧ PySem.W.keepIn X.K (.ref a) = true ∧ Binds X.K fd ps [] ∧ Room k X.A ∧
    FnOk X.prog X.w X.K X.mg X.base (L2.CX X.prog X.w) k a fd ps (spOf X.kx ec g)
  gl : ∀ g x, Γ.gl g = some x → ∃ nm u v, GT g = some nm ∧ (nm == ("__debug__" : Str)) = false ∧ X.mg nm = some u ∧ RelV v u ∧ ∀ G H, Rep X.kx G H v x
  st : ∀ x, (csc.names.lookup x = some .local ∨ csc.names.lookup x = some .cell) → Loc sc x ∧ (X.fn x = true ∨ sc.names.lookup x = some .local)
  ty : ∀ k cls, ec k = some cls → True
  cl : ∀ c, CT c = true → ClsCtx X c
  mt : ∀ f g, Γ.mt f = some g → ∃ c m fd ps k, MT f = some (c, m) ∧ Meth X.K (He.ga X.K (clsName c)) m (He.ma X.K (He.ga X.K (clsName c)) m) ∧ Binds X.K fd ps [] ∧ Room (k + 1) X.A ∧
    FnOk X.prog X.w X.K X.mg X.base (L2.CX X.prog X.w) k (He.ma X.K (He.ga X.K (clsName c)) m) fd ps (spOf X.kx ec g)
end GB

/-! GObj: objects: found in a slot, made, written, dropped. -/
namespace GB
open PySem PySem.Spec PyProof.Rows L2
section
variable {K : KX} {G G' G1 G2 G0 : Gh} {H H' H1 H2 H0 : Hp} {st st' st1 st2 st0 : S} {env : Envi} {σ : L2.St}
/-- the object k as the ghost and the state tell it -/
structure ObIs (G : Gh) (H : Hp) (st : S) (k : Nat) (og : OG) (ov : OV) : Prop where
  g : G.oo[k]? = some og
  s : st.ob[k]? = some ov
  ok : OOk G H og ov
theorem wp_objAt {i : Nat} {ok : Nat × OV → S → Prop} {ex : Nat → S → Prop} (w : Wr G H st) (e : EnvOk K G env σ H) (h : wpM (objAt env i) st ok ex) :
    ∃ k og ov, getZ env i = some (.obj k) ∧ σ[i]? = some (some (.ref og.a)) ∧ ObIs G H st k og ov ∧ ok (k, ov) st := by
  unfold wpM objAt at h
  cases q : getZ env i with
  | none => rw [q] at h; exact h.elim
  | some x =>
    rw [q] at h
    cases x <;> try exact h.elim
    rename_i k
    simp only at h
    cases q2 : st.ob[k]? with
    | none => rw [q2] at h; exact h.elim
    | some ov =>
      rw [q2] at h
      have q1 : env[i]? = some (some (.obj k, false)) := by
        unfold getZ at q
        split at q
        · rename_i he
          cases q
          exact he
        · cases q
      obtain ⟨v, h1, h2⟩ := e.fz i _ q1
      cases h2 with
      | @obj p _ o hk ho ha =>
        subst ha
        exact ⟨k, o, ov, rfl, h1, ⟨ho, q2, w.ob k o ov ho q2⟩, h⟩
theorem wp_dctAt {i : Nat} {ok : Nat × OV → S → Prop} {ex : Nat → S → Prop} (w : Wr G H st) (e : EnvOk K G env σ H) (h : wpM (dctAt env i) st ok ex) :
    ∃ k og ov, getZ env i = some (.obj k) ∧ σ[i]? = some (some (.ref og.a)) ∧ ObIs G H st k og ov ∧ ov.c = 2 ∧ ok (k, ov) st := by
  unfold dctAt at h
  rw [wpM_bind] at h
  obtain ⟨k, og, ov, h1, h2, h3, h⟩ := wp_objAt w e h
  split at h
  · rename_i hc
    exact ⟨k, og, ov, h1, h2, h3, hc, h⟩
  · exact h.elim
theorem wp_objF {i j : Nat} {ok : Nat × OV → S → Prop} {ex : Nat → S → Prop} (w : Wr G H st) (e : EnvOk K G env σ H) (h : wpM (objF env i j) st ok ex) :
    ∃ k og ov, getZ env i = some (.obj k) ∧ σ[i]? = some (some (.ref og.a)) ∧ ObIs G H st k og ov ∧ ov.c = j / 10 ∧ ok (k, ov) st := by
  unfold objF at h
  rw [wpM_bind] at h
  obtain ⟨k, og, ov, h1, h2, h3, h⟩ := wp_objAt w e h
  split at h
  · rename_i hc
    exact ⟨k, og, ov, h1, h2, h3, hc, h⟩
  · exact h.elim
/-- the same version, the same object -/
theorem ObIs.same {k : Nat} {og og' : OG} {ov ov' : OV} (b : ObIs G H st k og ov) (b' : ObIs G' H' st' k og' ov') (o : OoLe G.oo G'.oo) (h : ov'.v = ov.v) : og' = og := by
  obtain ⟨o', e, _, _, _, _, f⟩ := o k og b.g
  rw [b'.g] at e
  cases e
  exact f (by rw [b'.ok.v, b.ok.v, h])
/-- the object later -/
theorem ObIs.addr {k : Nat} {og og' : OG} {ov ov' : OV} (b : ObIs G H st k og ov) (b' : ObIs G' H' st' k og' ov') (o : OoLe G.oo G'.oo) : og'.a = og.a := by
  obtain ⟨o', e, f, _⟩ := o k og b.g
  rw [b'.g] at e
  cases e
  exact f
theorem ObIs.ins {k : Nat} {og : OG} {ov : OV} (b : ObIs G H st k og ov) (hc : ov.c ≠ 2) : H og.a = some (.ins (He.ga G.k.K (clsName ov.c)) og.dx ((clsFlds ov.c).zip og.vs)) ∧ ov.xs.length ≤ (clsFlds ov.c).length ∧ FReps G H og.vs og.ws ov.xs := by
  have := b.ok.bd
  rw [if_neg (by rw [b.ok.c]; exact hc), b.ok.c] at this
  exact this
theorem ObIs.dct {k : Nat} {og : OG} {ov : OV} (b : ObIs G H st k og ov) (hc : ov.c = 2) : og.vs = [] ∧ H og.a = some (dO G.k og.a og.es) ∧ EReps G H og.es ov.ps := by
  have := b.ok.bd
  rw [if_pos (by rw [b.ok.c]; exact hc)] at this
  exact this
theorem FReps.len : ∀ {vs : List V} {ws : List (Option (List V))} {xs : List PV}, FReps G H vs ws xs → vs.length = xs.length ∧ ws.length = xs.length
  | _, _, _, .nil => ⟨rfl, rfl⟩
  | _, _, _, .val _ _ _ t => by have := t.len; simp [this.1, this.2]
  | _, _, _, .lst _ _ _ _ t => by have := t.len; simp [this.1, this.2]
theorem FReps.getV : ∀ {vs : List V} {ws : List (Option (List V))} {xs : List PV}, FReps G H vs ws xs → ∀ {j : Nat} {x : PV}, xs[j]? = some x → x.isL = false → ∃ v, vs[j]? = some v ∧ ws[j]? = some none ∧ Rep G.k G H v x ∧ x.oLt 0 = true
  | _, _, _, .nil, j, x, h, _ => by simp at h
  | _, _, _, .val r n b0 t, 0, x, h, hx => by
    simp at h
    subst h
    exact ⟨_, rfl, rfl, r, b0⟩
  | _, _, _, .lst m e r b0 t, 0, x, h, hx => by
    simp at h
    subst h
    cases hx
  | _, _, _, .val r n b0 t, j + 1, x, h, hx => by
    obtain ⟨v, a, b, c⟩ := t.getV (j := j) (by simpa using h) hx
    exact ⟨v, by simpa using a, by simpa using b, c⟩
  | _, _, _, .lst m e r b0 t, j + 1, x, h, hx => by
    obtain ⟨v, a, b, c⟩ := t.getV (j := j) (by simpa using h) hx
    exact ⟨v, by simpa using a, by simpa using b, c⟩
theorem FReps.getL : ∀ {vs : List V} {ws : List (Option (List V))} {xs : List PV}, FReps G H vs ws xs → ∀ {j : Nat} {ys : List PV}, xs[j]? = some (.lst ys) → ∃ p us, vs[j]? = some (.ref p) ∧ ws[j]? = some (some us) ∧ G.om p ∧ H p = some (.lst us) ∧ Reps G.k G H us ys ∧ PV.oLts 0 ys = true
  | _, _, _, .nil, j, x, h => by simp at h
  | _, _, _, .val r n b0 t, 0, x, h => by
    simp at h
    subst h
    cases n
  | _, _, _, .lst m e r b0 t, 0, x, h => by
    simp at h
    subst h
    exact ⟨_, _, rfl, rfl, m, e, r, b0⟩
  | _, _, _, .val r n b0 t, j + 1, x, h => by
    obtain ⟨v, u, a, b, c⟩ := t.getL (j := j) (by simpa using h)
    exact ⟨v, u, by simpa using a, by simpa using b, c⟩
  | _, _, _, .lst m e r b0 t, j + 1, x, h => by
    obtain ⟨v, u, a, b, c⟩ := t.getL (j := j) (by simpa using h)
    exact ⟨v, u, by simpa using a, by simpa using b, c⟩
theorem fldV_some {o : OV} {j : Nat} {x : PV} (h : fldV o j = some x) : o.xs[j % 10]? = some x ∧ x.isL = false := by
  unfold fldV at h
  split at h
  · rename_i y hy
    split at h
    · cases h
    · rename_i hl
      cases h
      exact ⟨hy, by simpa using hl⟩
  · cases h
theorem fldL_some {o : OV} {j : Nat} {ys : List PV} (h : fldL o j = some ys) : o.xs[j % 10]? = some (.lst ys) := by
  unfold fldL at h
  split at h
  · rename_i y hy
    cases h
    exact hy
  · cases h
/-- a field by its name -/
theorem zip_lookup : ∀ {ns : List Str} {vs : List V} {j : Nat} {n : Str} {v : V}, ns.Nodup → ns[j]? = some n → vs[j]? = some v → (ns.zip vs).lookup n = some v
  | [], _, j, n, v, _, h, _ => by simp at h
  | _ :: _, [], j, n, v, _, _, h => by simp at h
  | m :: ns, u :: vs, 0, n, v, _, h1, h2 => by
    simp at h1 h2
    subst h1 h2
    simp [List.zip_cons_cons, List.lookup_cons]
  | m :: ns, u :: vs, j + 1, n, v, nd, h1, h2 => by
    have h1' : ns[j]? = some n := by simpa using h1
    have hne : (n == m) = false := by
      rw [List.nodup_cons] at nd
      have : n ≠ m := fun z => nd.1 (by rw [← z]; exact List.mem_of_getElem? h1')
      simpa using this
    rw [List.zip_cons_cons, List.lookup_cons, hne]
    exact zip_lookup (List.nodup_cons.mp nd).2 h1' (by simpa using h2)
theorem zip_none : ∀ {ns : List Str} {vs : List V} {n : Str}, n ∉ ns → (ns.zip vs).lookup n = none
  | [], _, _, _ => by simp
  | _ :: _, [], _, _ => by simp
  | m :: ns, u :: vs, n, h => by
    have hne : (n == m) = false := by
      have : n ≠ m := fun z => h (by rw [z]; exact List.mem_cons_self)
      simpa using this
    rw [List.zip_cons_cons, List.lookup_cons, hne]
    exact zip_none fun z => h (List.mem_cons_of_mem _ z)
theorem zip_put : ∀ {ns : List Str} {vs vs' : List V} {j : Nat} {n : Str} {v : V}, ns.Nodup → ns[j]? = some n → setAt vs j v = some vs' → putF n v (ns.zip vs) = ns.zip vs'
  | [], _, _, j, n, v, _, h, _ => by simp at h
  | m :: ns, [], vs', 0, n, v, _, h1, h2 => by
    simp at h1
    subst h1
    have : vs' = [v] := by unfold setAt at h2; simpa using h2.symm
    subst this
    simp [putF]
  | m :: ns, [], vs', j + 1, n, v, _, h1, h2 => by unfold setAt at h2; simp at h2
  | m :: ns, u :: vs, vs', 0, n, v, _, h1, h2 => by
    simp at h1
    subst h1
    have : vs' = v :: vs := by unfold setAt at h2; simpa using h2.symm
    subst this
    show putF m v ((m, u) :: ns.zip vs) = _
    unfold putF
    rw [if_pos rfl]
    rfl
  | m :: ns, u :: vs, vs', j + 1, n, v, nd, h1, h2 => by
    have h1' : ns[j]? = some n := by simpa using h1
    have hne : m ≠ n := by
      rw [List.nodup_cons] at nd
      exact fun z => nd.1 (by rw [z]; exact List.mem_of_getElem? h1')
    obtain ⟨ws, e1, e2⟩ : ∃ ws, setAt vs j v = some ws ∧ vs' = u :: ws := by
      unfold setAt at h2 ⊢
      simp only [List.length_cons] at h2
      split at h2
      · rename_i hl
        rw [if_pos (by omega)]
        cases h2
        exact ⟨_, rfl, by simp⟩
      · rename_i hl
        rw [if_neg (by omega)]
        split at h2
        · rename_i he
          rw [if_pos (by omega)]
          cases h2
          exact ⟨_, rfl, by simp⟩
        · cases h2
    subst e2
    show putF n v ((m, u) :: ns.zip vs) = (m, u) :: ns.zip ws
    unfold putF
    rw [if_neg hne, zip_put (List.nodup_cons.mp nd).2 h1' e1]
theorem clsFlds_nd (c : Nat) : (clsFlds c).Nodup := by
  unfold clsFlds
  split <;> decide +kernel
/-! ### making, writing, dropping -/
/-- one more object -/
theorem Wr.addO (w : Wr G H st) {og : OG} {ov : OV} (kk : ∀ q u, H q = some u → H' q = some u) (hx : H og.a = none) (nv : ∀ (j : Nat) (p : Addr) (us : List V), og.vs[j]? = some (V.ref p) → og.ws[j]? = some (some us) → False)
    (sh : (∃ C dx fs, H' og.a = some (.ins C dx fs)) ∨ ∃ φ, H' og.a = some (.ext φ)) (ok : OOk { G with oo := G.oo ++ [og], om := fun p => G.om p ∨ p = og.a } H' og ov) :
    After G H { st with ob := st.ob ++ [ov] } { G with oo := G.oo ++ [og], om := fun p => G.om p ∨ p = og.a } H' := by
  have nL : ¬ G.L og.a := fun l => by
    obtain ⟨o, e⟩ := w.lt _ l
    rw [hx] at e
    cases e
  have nc : ∀ a, G.ca = some a → a ≠ og.a := fun a h z => by
    obtain ⟨o, e⟩ := w.mut_some (.inl h)
    rw [z, hx] at e
    cases e
  have na : ∀ (j : Nat) (o : OG), G.oo[j]? = some o → o.a ≠ og.a := fun j o h z => by
    have hj : j < st.ob.length := by rw [← w.ol]; exact (List.getElem?_eq_some_iff.mp h).1
    obtain ⟨o', e⟩ := w.mut_some (.inr (w.ob j o _ h (List.getElem?_eq_getElem hj)).oma)
    rw [z, hx] at e
    cases e
  have ool : OoLe G.oo (G.oo ++ [og]) := fun j o h => ⟨o, by rw [List.getElem?_append_left (List.getElem?_eq_some_iff.mp h).1]; exact h, rfl, rfl, rfl, Nat.le_refl _, fun _ => rfl⟩
  have g : Gr G { G with oo := G.oo ++ [og], om := fun p => G.om p ∨ p = og.a } := ⟨fun _ h => h, fun _ h => h, rfl, ool⟩
  have last : ∀ {j o}, (G.oo ++ [og])[j]? = some o → (j < G.oo.length ∧ G.oo[j]? = some o) ∨ (j = G.oo.length ∧ o = og) := fun {j o} h => by
    by_cases hj : j < G.oo.length
    · rw [List.getElem?_append_left hj] at h
      exact .inl ⟨hj, h⟩
    · rw [List.getElem?_append_right (by omega)] at h
      have : j - G.oo.length = 0 := by
        have := (List.getElem?_eq_some_iff.mp h).1
        simp at this
        omega
      rw [this] at h
      simp at h
      exact .inr ⟨by omega, h.symm⟩
  refine ⟨⟨fun _ h => h, fun _ h => .inl h, fun p h => h.imp id .inl, fun p h => ?_, fun _ h => h, rfl, ool⟩, fun q u _ e => kk q u e, ⟨⟨fun p h m => ?_, fun p h => ?_, ?_, fun a h m => ?_, fun p h => ?_⟩, ?_, fun j o ov' h1 h2 => ?_, fun j j' i i' o o' p us us' h1 h2 h3 h4 h5 h6 => ?_, fun j j' o o' h1 h2 h3 => ?_⟩⟩
  · rcases h with h | h | h
    · exact .inl (.inl h)
    · exact .inl (.inr h)
    · exact .inr (by rw [h]; exact hx)
  · rcases m with m | m | m
    · exact w.lm p h (.inl m)
    · exact w.lm p h (.inr m)
    · exact nL (by rw [← m]; exact h)
  · obtain ⟨o, e⟩ := w.lt p h
    exact ⟨o, kk _ _ e⟩
  · have c := w.cn
    show match st.cnt with | some n => ∃ a, G.ca = some a ∧ H' a = some (.lst (List.replicate n (.int 0))) | none => G.ca = none
    cases e : st.cnt with
    | none => rw [e] at c; exact c
    | some n =>
      rw [e] at c
      obtain ⟨a, h1, h2⟩ := c
      exact ⟨a, h1, kk _ _ h2⟩
  · rcases m with m | m
    · exact w.co a h m
    · exact nc a h m
  · rcases h with h | h
    · rcases w.om p h with ⟨a, e⟩ | ⟨a, b, c, e⟩ | ⟨a, e⟩
      · exact .inl ⟨a, kk _ _ e⟩
      · exact .inr (.inl ⟨a, b, c, kk _ _ e⟩)
      · exact .inr (.inr ⟨a, kk _ _ e⟩)
    · subst h
      exact .inr sh
  · show (G.oo ++ [og]).length = (st.ob ++ [ov]).length
    rw [List.length_append, List.length_append, w.ol]
    rfl
  · have h2 : (st.ob ++ [ov])[j]? = some ov' := h2
    rcases last h1 with ⟨hj, h1⟩ | ⟨hj, e⟩
    · rw [List.getElem?_append_left (by rw [← w.ol]; exact hj)] at h2
      exact (w.ob j o ov' h1 h2).gr g (fun q u _ e => kk q u e) (fun q u _ e => kk q u e) fun _ z => .inl z
    · subst e
      rw [hj, w.ol, List.getElem?_append_right (Nat.le_refl _), Nat.sub_self] at h2
      cases h2
      exact ok
  · rcases last h1 with ⟨hj, h1⟩ | ⟨hj, e⟩
    · rcases last h2 with ⟨hj', h2⟩ | ⟨hj', e'⟩
      · exact w.ds j j' i i' o o' p us us' h1 h2 h3 h4 h5 h6
      · subst e'
        exact (nv _ _ _ h5 h6).elim
    · subst e
      exact (nv _ _ _ h3 h4).elim
  · rcases last h1 with ⟨hj, hk⟩ | ⟨hj, e⟩
    · rcases last h2 with ⟨hj', h2⟩ | ⟨hj', e'⟩
      · exact w.da j j' o o' hk h2 h3
      · subst e'
        exact absurd h3 (na j o hk)
    · rcases last h2 with ⟨hj', hk⟩ | ⟨hj', e'⟩
      · subst e
        exact absurd h3.symm (na j' o' hk)
      · omega
theorem FReps.gr2 (g : Gr G G') (k : KeepL G H H') (om : ∀ p, G.om p → G'.om p) : ∀ {vs : List V} {ws : List (Option (List V))} {xs : List PV}, (∀ (i : Nat) (p : Addr) (us : List V), vs[i]? = some (V.ref p) → ws[i]? = some (some us) → H p = some (.lst us) → H' p = some (.lst us)) → FReps G H vs ws xs → FReps G' H' vs ws xs
  | _, _, _, _, .nil => .nil
  | _, _, _, ko, .val r n b t => .val (by rw [g.k]; exact r.gr g k) n b (FReps.gr2 g k om (fun i p us h1 h2 => ko (i + 1) p us (by simpa using h1) (by simpa using h2)) t)
  | _, _, _, ko, .lst m e r b t => .lst (om _ m) (ko 0 _ _ rfl rfl e) (by rw [g.k]; exact r.gr g k) b (FReps.gr2 g k om (fun i p us h1 h2 => ko (i + 1) p us (by simpa using h1) (by simpa using h2)) t)
/-- where a list field stands -/
theorem FReps.at : ∀ {vs : List V} {ws : List (Option (List V))} {xs : List PV}, FReps G H vs ws xs → ∀ {i : Nat} {p : Addr} {us : List V}, vs[i]? = some (V.ref p) → ws[i]? = some (some us) → G.om p ∧ H p = some (.lst us)
  | _, _, _, .nil, i, p, us, h, _ => by simp at h
  | _, _, _, .val r n b0 t, 0, p, us, h1, h2 => by simp at h2
  | _, _, _, .lst m e r b0 t, 0, p, us, h1, h2 => by
    simp at h1 h2
    subst h1 h2
    exact ⟨m, e⟩
  | _, _, _, .val r n b0 t, i + 1, p, us, h1, h2 => t.at (i := i) (by simpa using h1) (by simpa using h2)
  | _, _, _, .lst m e r b0 t, i + 1, p, us, h1, h2 => t.at (i := i) (by simpa using h1) (by simpa using h2)
theorem OOk.lat {o : OG} {ov : OV} (h : OOk G H o ov) {i : Nat} {p : Addr} {us : List V} (h1 : o.vs[i]? = some (V.ref p)) (h2 : o.ws[i]? = some (some us)) : G.om p ∧ H p = some (.lst us) := by
  have := h.bd
  split at this
  · rw [this.1] at h1
    simp at h1
  · exact this.2.2.at h1 h2
theorem OOk.sh {o : OG} {ov : OV} (h : OOk G H o ov) : (∃ C dx fs, H o.a = some (.ins C dx fs)) ∨ ∃ φ, H o.a = some (.ext φ) := by
  have := h.bd
  split at this
  · exact .inr ⟨_, this.2.1⟩
  · exact .inl ⟨_, _, _, this.1⟩
/-- an object is written at z -/
theorem Wr.chgO (w : Wr G H st) {k : Nat} {og og' : OG} {ov ov' : OV} (b : ObIs G H st k og ov) (ea : og'.a = og.a) (edx : og'.dx = og.dx) (ec : og'.c = og.c) (ev : og'.v = og.v + 1) (z : Addr)
    (hz : z = og.a ∨ ∃ (i : Nat) (us : List V), og.vs[i]? = some (V.ref z) ∧ og.ws[i]? = some (some us)) (np : Addr → Prop) (hnp : ∀ p, np p → ¬ G.mut p ∧ ¬ G.L p ∧ ∃ us, H p = some (.lst us))
    (kk : ∀ q u, q ≠ z → H q = some u → H' q = some u) (sh : (∃ vs, H' z = some (.lst vs)) ∨ (∃ C dx fs, H' z = some (.ins C dx fs)) ∨ ∃ φ, H' z = some (.ext φ))
    (li : ∀ (i : Nat) (p : Addr) (us : List V), og'.vs[i]? = some (V.ref p) → og'.ws[i]? = some (some us) → np p ∨ ∃ us0, og.vs[i]? = some (V.ref p) ∧ og.ws[i]? = some (some us0))
    (on : ∀ (i i' : Nat) (p : Addr) (us us' : List V), np p → og'.vs[i]? = some (V.ref p) → og'.ws[i]? = some (some us) → og'.vs[i']? = some (V.ref p) → og'.ws[i']? = some (some us') → i = i')
    (ok : OOk { G with oo := G.oo.set k og', om := fun p => G.om p ∨ np p } H' og' ov') :
    Wr { G with oo := G.oo.set k og', om := fun p => G.om p ∨ np p } H' { st with ob := st.ob.set k ov' } ∧ Gr G { G with oo := G.oo.set k og', om := fun p => G.om p ∨ np p } ∧ KeepL G H H' ∧ G.om z := by
  have oz : G.om z := by
    rcases hz with rfl | ⟨i, us, h1, h2⟩
    · exact b.ok.oma
    · exact (b.ok.lat h1 h2).1
  have nz : ∀ p, np p → p ≠ z := fun p h e => (hnp p h).1 (by rw [e]; exact .inr oz)
  have hk : k < G.oo.length := (List.getElem?_eq_some_iff.mp b.g).1
  have hks : k < st.ob.length := by rw [← w.ol]; exact hk
  have at1 : ∀ {j : Nat} {o : OG}, (G.oo.set k og')[j]? = some o → (j = k ∧ o = og') ∨ (j ≠ k ∧ G.oo[j]? = some o) := fun {j o} h => by
    by_cases hj : k = j
    · subst hj
      rw [List.getElem?_set_self hk] at h
      cases h
      exact .inl ⟨rfl, rfl⟩
    · rw [List.getElem?_set_ne hj] at h
      exact .inr ⟨fun q => hj q.symm, h⟩
  have ool : OoLe G.oo (G.oo.set k og') := fun j o h => by
    by_cases hj : k = j
    · subst hj
      rw [b.g] at h
      cases h
      exact ⟨og', List.getElem?_set_self hk, ea, edx, ec, by omega, fun q => by omega⟩
    · exact ⟨o, by rw [List.getElem?_set_ne hj]; exact h, rfl, rfl, rfl, Nat.le_refl _, fun _ => rfl⟩
  have g : Gr G { G with oo := G.oo.set k og', om := fun p => G.om p ∨ np p } := ⟨fun _ h => h, fun _ h => h, rfl, ool⟩
  have kl : KeepL G H H' := fun q u h e => by
    refine kk q u (fun qz => ?_) e
    subst qz
    rcases h with h | h
    · exact w.lm q h (.inr oz)
    · exact w.mut_sh (.inr oz) e h
  refine ⟨⟨⟨fun p h m => ?_, fun p h => ?_, ?_, fun a h m => ?_, fun p h => ?_⟩, ?_, fun j o ov0 h1 h2 => ?_, fun j j' i i' o o' p us us' h1 h2 h3 h4 h5 h6 => ?_, fun j j' o o' h1 h2 h3 => ?_⟩, g, kl, oz⟩
  · rcases m with m | m | m
    · exact w.lm p h (.inl m)
    · exact w.lm p h (.inr m)
    · exact (hnp p m).2.1 h
  · obtain ⟨o, e⟩ := w.lt p h
    exact ⟨o, kl p o (.inl h) e⟩
  · have c := w.cn
    show match st.cnt with | some n => ∃ a, G.ca = some a ∧ H' a = some (.lst (List.replicate n (.int 0))) | none => G.ca = none
    cases e : st.cnt with
    | none => rw [e] at c; exact c
    | some n =>
      rw [e] at c
      obtain ⟨a, h1, h2⟩ := c
      exact ⟨a, h1, kk _ _ (fun q => w.co a h1 (by rw [q]; exact oz)) h2⟩
  · rcases m with m | m
    · exact w.co a h m
    · exact (hnp a m).1 (.inl h)
  · rcases h with h | h
    · by_cases hp : p = z
      · subst hp
        exact sh
      · rcases w.om p h with ⟨a, e⟩ | ⟨a, b, c, e⟩ | ⟨a, e⟩
        · exact .inl ⟨a, kk _ _ hp e⟩
        · exact .inr (.inl ⟨a, b, c, kk _ _ hp e⟩)
        · exact .inr (.inr ⟨a, kk _ _ hp e⟩)
    · obtain ⟨_, _, us, e⟩ := hnp p h
      exact .inl ⟨us, kk _ _ (nz p h) e⟩
  · show (G.oo.set k og').length = (st.ob.set k ov').length
    rw [List.length_set, List.length_set, w.ol]
  · have h2 : (st.ob.set k ov')[j]? = some ov0 := h2
    rcases at1 h1 with ⟨hj, e⟩ | ⟨hj, h1⟩
    · subst hj e
      rw [List.getElem?_set_self hks] at h2
      cases h2
      exact ok
    · rw [List.getElem?_set_ne (fun q => hj q.symm)] at h2
      have B := w.ob j o ov0 h1 h2
      have a1 : o.a ≠ z := fun e => by
        rcases hz with hz | ⟨i, us, e1, e2⟩
        · exact hj (w.da j k o og h1 b.g (e.trans hz))
        · have e3 := (b.ok.lat e1 e2).2
          rw [← e] at e3
          rcases B.sh with ⟨_, _, _, q⟩ | ⟨_, q⟩ <;> rw [e3] at q <;> cases q
      have a2 : ∀ (i : Nat) (p : Addr) (us : List V), o.vs[i]? = some (V.ref p) → o.ws[i]? = some (some us) → p ≠ z := fun i p us e1 e2 e => by
        rcases hz with hz | ⟨i', us', e3, e4⟩
        · have e5 := (B.lat e1 e2).2
          rw [e, hz] at e5
          rcases b.ok.sh with ⟨_, _, _, q⟩ | ⟨_, q⟩ <;> rw [e5] at q <;> cases q
        · exact hj (w.ds j k i i' o og p us us' h1 b.g e1 e2 (by rw [e]; exact e3) e4).1
      obtain ⟨c1, c2, c3, c4⟩ := B
      refine ⟨c1, c2, .inl c3, ?_⟩
      split at c4
      · rename_i hc
        rw [if_pos hc]
        exact ⟨c4.1, kk _ _ a1 c4.2.1, c4.2.2.gr g kl⟩
      · rename_i hc
        rw [if_neg hc]
        exact ⟨kk _ _ a1 c4.1, c4.2.1, c4.2.2.gr2 g kl (fun _ h => .inl h) fun i p us e1 e2 e => kk _ _ (a2 i p us e1 e2) e⟩
  · have om' : ∀ {j : Nat} {o : OG} {i : Nat} {us : List V}, G.oo[j]? = some o → o.vs[i]? = some (V.ref p) → o.ws[i]? = some (some us) → G.om p := fun {j o i us} e1 e2 e3 =>
      ((w.ob j o _ e1 (List.getElem?_eq_getElem (by rw [← w.ol]; exact (List.getElem?_eq_some_iff.mp e1).1))).lat e2 e3).1
    rcases at1 h1 with ⟨hj, e⟩ | ⟨hj, h1⟩
    · subst hj e
      rcases at1 h2 with ⟨hj', e'⟩ | ⟨hj', h2⟩
      · subst hj' e'
        refine ⟨rfl, ?_⟩
        rcases li _ _ _ h3 h4 with n1 | ⟨u0, f1, f2⟩
        · exact on i i' p _ _ n1 h3 h4 h5 h6
        · rcases li _ _ _ h5 h6 with n2 | ⟨u1, f3, f4⟩
          · exact on i i' p _ _ n2 h3 h4 h5 h6
          · exact (w.ds _ _ i i' og og p _ _ b.g b.g f1 f2 f3 f4).2
      · exfalso
        rcases li _ _ _ h3 h4 with n1 | ⟨u0, f1, f2⟩
        · exact (hnp p n1).1 (.inr (om' h2 h5 h6))
        · exact hj' (w.ds j' _ i' i o' og p _ _ h2 b.g h5 h6 f1 f2).1
    · rcases at1 h2 with ⟨hj', e'⟩ | ⟨hj', h2⟩
      · rw [e'] at h5 h6
        exfalso
        rcases li _ _ _ h5 h6 with n1 | ⟨u0, f1, f2⟩
        · exact (hnp p n1).1 (.inr (om' h1 h3 h4))
        · exact hj (w.ds j _ i i' o og p _ _ h1 b.g h3 h4 f1 f2).1
      · exact w.ds j j' i i' o o' p us us' h1 h2 h3 h4 h5 h6
  · rcases at1 h1 with ⟨hj, e⟩ | ⟨hj, h1⟩
    · subst hj e
      rcases at1 h2 with ⟨hj', e'⟩ | ⟨hj', h2⟩
      · exact hj'.symm
      · exact w.da _ _ og o' b.g h2 (by rw [← h3, ea])
    · rcases at1 h2 with ⟨hj', e'⟩ | ⟨hj', h2⟩
      · rw [hj']
        exact w.da _ _ o og h1 b.g (by rw [h3, e', ea])
      · exact w.da j j' o o' h1 h2 h3
/-- .. and nothing taken over -/
theorem Wr.chgA (w : Wr G H st) {k : Nat} {og og' : OG} {ov ov' : OV} (b : ObIs G H st k og ov) (ea : og'.a = og.a) (edx : og'.dx = og.dx) (ec : og'.c = og.c) (ev : og'.v = og.v + 1) (z : Addr)
    (hz : z = og.a ∨ ∃ (i : Nat) (us : List V), og.vs[i]? = some (V.ref z) ∧ og.ws[i]? = some (some us))
    (kk : ∀ q u, q ≠ z → H q = some u → H' q = some u) (sh : (∃ vs, H' z = some (.lst vs)) ∨ (∃ C dx fs, H' z = some (.ins C dx fs)) ∨ ∃ φ, H' z = some (.ext φ))
    (li : ∀ (i : Nat) (p : Addr) (us : List V), og'.vs[i]? = some (V.ref p) → og'.ws[i]? = some (some us) → ∃ us0, og.vs[i]? = some (V.ref p) ∧ og.ws[i]? = some (some us0))
    (ok : ∀ G', Gr G G' → KeepL G H H' → (∀ p, G.om p → G'.om p) → OOk G' H' og' ov') :
    ∃ G', After G H { st with ob := st.ob.set k ov' } G' H' ∧ Gr G G' ∧ KeepL G H H' := by
  have kl : KeepL G H H' := fun q u h e => by
    have oz : G.om z := by
      rcases hz with rfl | ⟨i, us, h1, h2⟩
      · exact b.ok.oma
      · exact (b.ok.lat h1 h2).1
    refine kk q u (fun qz => ?_) e
    subst qz
    rcases h with h | h
    · exact w.lm q h (.inr oz)
    · exact w.mut_sh (.inr oz) e h
  have hk : k < G.oo.length := (List.getElem?_eq_some_iff.mp b.g).1
  have ool : OoLe G.oo (G.oo.set k og') := fun j o h => by
    by_cases hj : k = j
    · subst hj
      rw [b.g] at h
      cases h
      exact ⟨og', List.getElem?_set_self hk, ea, edx, ec, by omega, fun q => by omega⟩
    · exact ⟨o, by rw [List.getElem?_set_ne hj]; exact h, rfl, rfl, rfl, Nat.le_refl _, fun _ => rfl⟩
  obtain ⟨c1, c2, c3, c4⟩ := w.chgO (og' := og') (ov' := ov') b ea edx ec ev z hz (fun _ => False) (fun _ h => h.elim) kk sh (fun i p us h1 h2 => .inr (li i p us h1 h2)) (fun _ _ _ _ _ h => h.elim)
    (ok _ ⟨fun _ h => h, fun _ h => h, rfl, ool⟩ kl fun _ h => .inl h)
  refine ⟨{ G with oo := G.oo.set k og', om := fun p => G.om p ∨ False }, ⟨⟨fun _ h => h, fun _ h => .inl h, fun p h => h.imp id .inl, fun p h => ?_, fun _ h => h, rfl, ool⟩, fun q u hm e => kk q u (fun z' => hm (by rw [z']; exact .inr c4)) e, c1⟩, c2, c3⟩
  rcases h with h | h | h
  · exact .inl (.inl h)
  · exact .inl (.inr h)
  · exact h.elim
mutual
theorem Rep.cut_o (n : Nat) {v : V} {x : PV} : Rep K G H v x → x.oLt n = true → Rep K { G with oo := G.oo.take n } H v x
  | .non, _ => .non
  | .bl b, _ => .bl b
  | .int i, _ => .int i
  | .str s, _ => .str s
  | .tup h r, e => .tup h (Reps.cut_o n r (by unfold PV.oLt at e; exact e))
  | .lst h1 h2 r, e => .lst h1 h2 (Reps.cut_o n r (by unfold PV.oLt at e; exact e))
  | .scr h, _ => .scr h
  | .cnt h, _ => .cnt h
  | .obj (k := k) h1 h2 h3, e => .obj h1 (by
      have e : decide (k < n) = true := by unfold PV.oLt at e; exact e
      show (G.oo.take n)[k]? = _
      rw [List.getElem?_take, if_pos (of_decide_eq_true e)]
      exact h2) h3
theorem Reps.cut_o (n : Nat) {vs : List V} {xs : List PV} : Reps K G H vs xs → PV.oLts n xs = true → Reps K { G with oo := G.oo.take n } H vs xs
  | .nil, _ => .nil
  | .cons h r, e => by
    unfold PV.oLts at e
    rw [Bool.and_eq_true] at e
    exact .cons (Rep.cut_o n h e.1) (Reps.cut_o n r e.2)
end
mutual
theorem oLt_mono {m n : Nat} (h : m ≤ n) : ∀ {x : PV}, x.oLt m = true → x.oLt n = true
  | .non, _ => rfl
  | .bl _, _ => rfl
  | .int _, _ => rfl
  | .str _, _ => rfl
  | .tup xs, e => by unfold PV.oLt at e ⊢; exact oLts_mono h e
  | .lst xs, e => by unfold PV.oLt at e ⊢; exact oLts_mono h e
  | .dct _, e => by unfold PV.oLt at e; cases e
  | .cnt, _ => rfl
  | .obj k, e => by
    unfold PV.oLt at e ⊢
    have := of_decide_eq_true e
    exact decide_eq_true (by omega)
  | .exc _, _ => rfl
  | .scr _, _ => rfl
theorem oLts_mono {m n : Nat} (h : m ≤ n) : ∀ {xs : List PV}, PV.oLts m xs = true → PV.oLts n xs = true
  | [], _ => rfl
  | x :: xs, e => by
    unfold PV.oLts at e ⊢
    rw [Bool.and_eq_true] at e ⊢
    exact ⟨oLt_mono h e.1, oLts_mono h e.2⟩
end
mutual
theorem nk_oLt {n : Nat} : ∀ {x : PV} {k : NestedKey}, x.nk = some k → x.oLt n = true
  | .int _, _, _ => rfl
  | .str _, _, _ => rfl
  | .tup xs, k, e => by
    unfold PV.nk at e
    unfold PV.oLt
    cases q : PV.nks xs with
    | none => rw [q] at e; cases e
    | some ks => exact nks_oLt q
  | .non, _, e => nomatch e
  | .bl _, _, e => nomatch e
  | .lst _, _, e => nomatch e
  | .dct _, _, e => nomatch e
  | .cnt, _, e => nomatch e
  | .obj _, _, e => nomatch e
  | .exc _, _, e => nomatch e
  | .scr _, _, e => nomatch e
theorem nks_oLt {n : Nat} : ∀ {xs : List PV} {ks : List NestedKey}, PV.nks xs = some ks → PV.oLts n xs = true
  | [], _, _ => rfl
  | x :: xs, ks, e => by
    unfold PV.nks at e
    unfold PV.oLts
    cases q : PV.nk x with
    | none => rw [q] at e; cases e
    | some k =>
      cases q2 : PV.nks xs with
      | none => rw [q, q2] at e; cases e
      | some k2 => rw [nk_oLt q, nks_oLt q2]; rfl
end
theorem FReps.cut_o (n : Nat) : ∀ {vs : List V} {ws : List (Option (List V))} {xs : List PV}, FReps G H vs ws xs → FReps { G with oo := G.oo.take n } H vs ws xs
  | _, _, _, .nil => .nil
  | _, _, _, .val r a b t => .val (r.cut_o n (oLt_mono (Nat.zero_le n) b)) a b (FReps.cut_o n t)
  | _, _, _, .lst m e r b t => .lst m e (r.cut_o n (oLts_mono (Nat.zero_le n) b)) b (FReps.cut_o n t)
theorem EReps.cut_o (n : Nat) : ∀ {es : List (NestedKey × Addr × V)} {ps : List (PV × PV)}, EReps G H es ps → EReps { G with oo := G.oo.take n } H es ps
  | _, _, .nil => .nil
  | _, _, .cons r k d s b t => .cons (r.cut_o n (nk_oLt k)) k d (s.cut_o n (oLt_mono (Nat.zero_le n) b)) b (EReps.cut_o n t)
/-- the new objects dropped -/
theorem Wr.take (w : Wr G H st) (n : Nat) : Wr { G with oo := G.oo.take n } H { st with ob := st.ob.take n } := by
  have at1 : ∀ {α : Type} {l : List α} {j : Nat} {o : α}, (l.take n)[j]? = some o → l[j]? = some o := fun {α l j o} h => by
    rw [List.getElem?_take] at h
    split at h
    · exact h
    · cases h
  refine ⟨⟨w.lm, w.lt, w.cn, w.co, w.om⟩, ?_, fun j o ov h1 h2 => ?_, fun j j' i i' o o' p us us' h1 h2 => w.ds j j' i i' o o' p us us' (at1 h1) (at1 h2), fun j j' o o' h1 h2 => w.da j j' o o' (at1 h1) (at1 h2)⟩
  · show (G.oo.take n).length = (st.ob.take n).length
    rw [List.length_take, List.length_take, w.ol]
  · obtain ⟨c1, c2, c3, c4⟩ := w.ob j o ov (at1 h1) (at1 h2)
    refine ⟨c1, c2, c3, ?_⟩
    split at c4
    · rename_i hc
      rw [if_pos hc]
      exact ⟨c4.1, c4.2.1, c4.2.2.cut_o n⟩
    · rename_i hc
      rw [if_neg hc]
      exact ⟨c4.1, c4.2.1, c4.2.2.cut_o n⟩
theorem OoLe.take {a b : List OG} (h : OoLe a b) {n : Nat} (hn : a.length ≤ n) : OoLe a (b.take n) := fun j o e => by
  obtain ⟨o', e', q⟩ := h j o e
  have hj := (List.getElem?_eq_some_iff.mp e).1
  exact ⟨o', by rw [List.getElem?_take, if_pos (by omega)]; exact e', q⟩
theorem After.take (a : After G H st' G' H') {n : Nat} (hn : G.oo.length ≤ n) : After G H { st' with ob := st'.ob.take n } { G' with oo := G'.oo.take n } H' :=
  ⟨⟨a.le.l, a.le.ln, a.le.m, a.le.mn, a.le.c, a.le.k, a.le.o.take hn⟩, a.keep, a.wr.take n⟩
theorem ResOk.take {v : V} {x : PV} {fr : Bool} (r : ResOk K H0 G H v x fr) (n : Nat) (h : x.oLt n = true) : ResOk K H0 { G with oo := G.oo.take n } H v x fr := by
  unfold ResOk at r ⊢
  cases fr with
  | false =>
    rw [if_neg Bool.false_ne_true] at r ⊢
    exact r.cut_o n h
  | true =>
    rw [if_pos rfl] at r ⊢
    obtain ⟨p, vs, xs, e1, e2, m, l, hn, e, rs⟩ := r
    subst e2
    unfold PV.oLt at h
    exact ⟨p, vs, xs, e1, rfl, m, l, hn, e, rs.cut_o n h⟩
end
end GB

/-! GChk: does a term of the small language tell a given expression of the text? -/
namespace GB
open PySem PySem.Spec PyProof.Rows L2

def visB (sc : Scope) (x : Str) : Bool := match sc.names.lookup x with
  | some .local => true | some .cell => true | some .free => true | _ => false
def glB (sc : Scope) (x : Str) : Bool := match sc.names.lookup x with
  | some .globalImplicit => true | _ => false
def okName (x : Str) : Bool := !(x == ("__debug__" : Str)) && !(x == ("__classdict__" : Str))
def notStar : Expr → Bool
  | .Starred _ _ => false | _ => true
def notSlice : Expr → Bool
  | .Slice _ _ _ _ => false | _ => true
def notSet : Expr → Bool
  | .Set _ _ _ => false | _ => true
/-- its truth is its value's -/
def plainT : Expr → Bool
  | .UnaryOp .Not _ _ => false | .BoolOp _ _ _ => false | .IfExp _ _ _ _ => false | .Compare _ _ _ _ => false | _ => true
def opB : BOp → Operator → Bool
  | .add, .Add => true | .sub, .Sub => true | .mul, .Mult => true | .fdiv, .FloorDiv => true | .mod, .Mod => true | .pow, .Pow => true | _, _ => false
def copB : COp → CmpOp → Bool
  | .eq, .Eq => true | .ne, .NotEq => true | .lt, .Lt => true | .le, .LtE => true | .gt, .Gt => true | .ge, .GtE => true | .is, .Is => true | .isnot, .IsNot => true | .isin, .In => true | .notin, .NotIn => true | _, _ => false
def tyName : Ty → Option Str
  | .int => some "int" | .bool => some "bool" | .str => some "str" | .tuple => some "tuple" | .list => some "list" | _ => none

/-- names and tables that a check looks at -/
structure Tb where
  N : List Str
  FT : Nat → Option Str
  GT : Nat → Option Str
  MT : Nat → Option (Nat × Str)
  CT : Nat → Bool
def fieldB (T : Tb) (j : Nat) (f : Str) : Bool := T.CT (j / 10) && decide (j / 10 < 2) && decide ((clsFlds (j / 10))[j % 10]? = some f)
def varB (T : Tb) (sc : Scope) (i : Nat) (x : Str) : Bool := decide (T.N[i]? = some x) && visB sc x && okName x
mutual
/-- the names of a target with their places -/
def tgOwn (N : List Str) : Tg → List (Str × Nat)
  | .name i => match N[i]? with | some x => [(x, i)] | none => []
  | .tup ts => tgsOwn N ts
def tgsOwn (N : List Str) : Tgs → List (Str × Nat)
  | .nil => []
  | .cons t ts => tgOwn N t ++ tgsOwn N ts
end
def stB (csc : Scope) (x : Str) : Bool := match csc.names.lookup x with
  | some .local => true | some .cell => true | _ => false
mutual
def chkT (T : Tb) (csc : Scope) : Tg → Expr → Bool
  | .name i, .Name x _ => decide (T.N[i]? = some x) && stB csc x
  | .tup ts, .Tuple es _ _ => chkTs T csc ts es
  | _, _ => false
def chkTs (T : Tb) (csc : Scope) : Tgs → List Expr → Bool
  | .nil, [] => true
  | .cons t ts, e :: es => notStar e && chkT T csc t e && chkTs T csc ts es
  | _, _ => false
end
/-! objects in the text -/
def fldB (T : Tb) (sc : Scope) (i j : Nat) : Expr → Bool
  | .Attribute (.Name x _) f _ => varB T sc i x && fieldB T j f
  | _ => false
def fixP (T : Tb) (sc : Scope) (i j : Nat) : Expr → Option Expr
  | .Subscript o s _ => if fldB T sc i j o && notSlice s then some s else none
  | _ => none
def flenB (T : Tb) (sc : Scope) (i j : Nat) : Expr → Bool
  | .Call (.Name g _) [o] [] _ => decide (g = "len") && glB sc g && fldB T sc i j o
  | _ => false
def oneB : Expr → Bool
  | .UnaryOp .USub (.Constant (.int n) _ _) _ => decide (n = 1)
  | _ => false
def fcutB (T : Tb) (sc : Scope) (i j : Nat) (b : Bool) : Expr → Bool
  | .Call (.Name g _) [o] [] _ => !b && decide (g = "list") && glB sc g && fldB T sc i j o
  | .Subscript o (.Slice none (some u) none _) _ => b && fldB T sc i j o && oneB u
  | _ => false
def mkP (T : Tb) (sc : Scope) (c f : Nat) : Expr → Option (List Expr)
  | .Call (.Name x _) as [] _ => if T.CT c && decide (c < 2) && decide (x = clsName c) && decide (T.MT f = some (c, ("__init__" : Str))) && glB sc x && !as.isEmpty then some as else none
  | _ => none
def mcallP (T : Tb) (sc : Scope) (c f i : Nat) : Expr → Option (List Expr)
  | .Call (.Attribute (.Name x _) m ap) as [] pos => if T.CT c && decide (c < 2) && varB T sc i x && decide (T.MT f = some (c, m)) && !(clsFlds c).contains m && ap.endLine == pos.line && decide (as.length < 20) then some as else none
  | _ => none
def dnewB : Expr → Bool
  | .Dict [] [] _ => true
  | _ => false
def doneP : Expr → Option (Expr × Expr)
  | .Dict [some a] [b] _ => some (a, b)
  | _ => none
def dinP (T : Tb) (sc : Scope) (neg : Bool) (i : Nat) : Expr → Option Expr
  | .Compare l [o] [.Name x _] _ => if copB (if neg then .notin else .isin) o && varB T sc i x then some l else none
  | _ => none
def dgetP (T : Tb) (sc : Scope) (i : Nat) : Expr → Option Expr
  | .Subscript (.Name x _) s _ => if varB T sc i x && notSlice s then some s else none
  | _ => none
def dlenB (T : Tb) (sc : Scope) (g0 : Str) (i : Nat) : Expr → Bool
  | .Call (.Name g _) [.Name x _] [] _ => decide (g = g0) && glB sc g && varB T sc i x
  | _ => false
/-- xs.index(e), xs a name -/
def idxB (T : Tb) (sc : Scope) (m : Nat) (o : Ex) : Expr → Option Expr
  | .Call (.Attribute (.Name x _) n ap) [v] [] cp => match o with
    | .var i => if m == 2 && decide (T.N[i]? = some x) && visB sc x && okName x && decide (n = "index") && ap.endLine == cp.line && notStar v then some v else none
    | _ => none
  | _ => none
/-- x[::-1], x[n::-1] -/
def revLo : Option Nat → Option Expr → Bool
  | none, none => true
  | some n, some (.Constant (.int k) _ _) => decide (k = (n : Int))
  | _, _ => false
def revP (h : Option Nat) : Expr → Option Expr
  | .Subscript v (.Slice l none (some u) _) _ => if oneB u && revLo h l then some v else none
  | _ => none
mutual
def chkE (T : Tb) (sc : Scope) : Ex → Expr → Bool
  | .var i, .Name x _ => decide (T.N[i]? = some x) && visB sc x && okName x
  | .int i, .Constant (.int j) _ _ => decide (i = j)
  | .str s, .Constant (.str t) _ _ => decide (s = t)
  | .bl b, .Constant (.bool c) _ _ => b == c
  | .non, .Constant .none _ _ => true
  | .glob g, .Name x _ => decide (T.GT g = some x) && glB sc x
  | .tup es, .Tuple es' _ _ => decide (es'.length ≤ 100000) && chkEs T sc es es'
  | .lst es, .List es' _ => decide (es'.length ≤ 100000) && chkEs T sc es es'
  | .bin op a b, .BinOp l o r _ => opB op o && chkE T sc a l && chkE T sc b r
  | .neg a, .UnaryOp .USub x _ => chkE T sc a x
  | .not a, .UnaryOp .Not x _ => chkE T sc a x
  | .cmp op a b, .Compare l [o] [r] _ => copB op o && notSet r && chkE T sc a l && chkE T sc b r
  | .cmp2 op op' a b c, .Compare l [o, o'] [r, r'] _ => copB op o && copB op' o' && notSet r' && chkE T sc a l && chkE T sc b r && chkE T sc c r'
  | .and es, .BoolOp .And vs _ => !vs.isEmpty && chkEs T sc es vs
  | .or es, .BoolOp .Or vs _ => !vs.isEmpty && chkEs T sc es vs
  | .ite c a b, .IfExp t x y _ => chkE T sc c t && chkE T sc a x && chkE T sc b y
  | .sli a lo hi, .Subscript v (.Slice l h none _) _ => chkE T sc a v && (match l with | none => isOmit lo | some x => !isOmit lo && chkE T sc lo x) && (match h with | none => isOmit hi | some x => !isOmit hi && chkE T sc hi x)
  | .idx a i, .Subscript v s _ => notSlice s && chkE T sc a v && chkE T sc i s
  | .call f es, .Call (.Name x _) as [] _ => decide (T.FT f = some x) && glB sc x && chkEs T sc es as && !as.isEmpty
  | .blt f es, .Call (.Name x _) as [] _ => decide (bltName f = x) && glB sc x && chkEs T sc es as && !as.isEmpty
  | .isi a t, .Call (.Name f _) [v, .Name x _] [] _ => decide (f = "isinstance") && glB sc f && decide (tyName t = some x) && glB sc x && notStar v && chkE T sc a v
  | .comp elt tg it cs, .ListComp e [⟨t, i, ifs, 0⟩] scope _ => blkC T.N sc scope (tgOwn T.N tg) && chkT T scope tg t && chkI T sc it t i && notSet i && chkEs T (relS scope sc) cs ifs && decide (ifs.length ≤ 1) && chkE T (relS scope sc) elt e
  | .fld i j, x => fldB T sc i j x
  | .fix i j e, x => match fixP T sc i j x with | some s => chkE T sc e s | none => false
  | .flen i j, x => flenB T sc i j x
  | .fcut i j b, x => fcutB T sc i j b x
  | .mk c f es, x => match mkP T sc c f x with | some as => chkEs T sc es as | none => false
  | .mcall c f i es, x => match mcallP T sc c f i x with | some as => chkEs T sc es as | none => false
  | .dnew, x => dnewB x
  | .done k v, x => match doneP x with | some (a, b) => chkE T sc k a && chkE T sc v b | none => false
  | .din neg k i, x => match dinP T sc neg i x with | some l => chkE T sc k l | none => false
  | .dget i k, x => match dgetP T sc i x with | some s => chkE T sc k s | none => false
  | .dlen i, x => dlenB T sc "len" i x
  | .rev a, x => match revP none x with | some v => chkE T sc a v | none => false
  | .revh a n, x => match revP (some n) x with | some v => chkE T sc a v | none => false
  | .meth m o es, x => match idxB T sc m o x with | some v => chkEs T sc es [v] | none => false
  | _, _ => false
def chkEs (T : Tb) (sc : Scope) : Exs → List Expr → Bool
  | .nil, [] => true
  | .cons e es, x :: xs => notStar x && chkE T sc e x && chkEs T sc es xs
  | _, _ => false
def chkI (T : Tb) (sc : Scope) : Src → Expr → Expr → Bool
  | .val e, _, x => chkE T sc e x
  | .range1 a, _, .Call (.Name f _) [x] [] _ => decide (f = "range") && glB sc f && notStar x && chkE T sc a x
  | .range2 a b, _, .Call (.Name f _) [x, y] [] _ => decide (f = "range") && glB sc f && notStar x && notStar y && chkE T sc a x && chkE T sc b y
  | .enum a, .Tuple _ _ _, .Call (.Name f _) [x] [] _ => decide (f = "enumerate") && glB sc f && notStar x && chkE T sc a x
  | .zip2 a b, .Tuple _ _ _, .Call (.Name f _) [x, y] [] _ => decide (f = "zip") && glB sc f && notStar x && notStar y && chkE T sc a x && chkE T sc b y
  | .zip3 a b c, .Tuple _ _ _, .Call (.Name f _) [x, y, z] [] _ => decide (f = "zip") && glB sc f && notStar x && notStar y && notStar z && chkE T sc a x && chkE T sc b y && chkE T sc c z
  | _, _, _ => false
end

/-! ### what the checks give -/
theorem visB_ok {sc : Scope} {x : Str} (h : visB sc x = true) : Vis sc x := by
  unfold visB at h
  split at h <;> first | exact .inl (by assumption) | exact .inr (.inl (by assumption)) | exact .inr (.inr (by assumption)) | cases h
theorem glB_ok {sc : Scope} {x : Str} (h : glB sc x = true) : sc.names.lookup x = some .globalImplicit := by
  unfold glB at h
  split at h
  · assumption
  · cases h
theorem stB_ok {sc : Scope} {x : Str} (h : stB sc x = true) : sc.names.lookup x = some .local ∨ sc.names.lookup x = some .cell := by
  unfold stB at h
  split at h <;> first | exact .inl (by assumption) | exact .inr (by assumption) | cases h
theorem okName_ok {x : Str} (h : okName x = true) : (x == ("__debug__" : Str)) = false ∧ (x == ("__classdict__" : Str)) = false := by
  unfold okName at h
  rw [Bool.and_eq_true, Bool.not_eq_true', Bool.not_eq_true'] at h
  exact h
theorem opB_ok {op : BOp} {o : Operator} (h : opB op o = true) : o = opOf op := by
  cases op <;> cases o <;> first | rfl | cases h
theorem copB_ok {op : COp} {o : CmpOp} (h : copB op o = true) : o = copOf op := by
  cases op <;> cases o <;> first | rfl | cases h
theorem star_cons {e : Expr} {es : List Expr} {env : PySem.Env} (h : notStar e = true) : starEach (e :: es) env = (false, eval e env) :: starEach es env := by
  cases e <;> first | rfl | cases h
theorem mark_set {op : CmpOp} {e : Expr} (h : notSet e = true) : behindInMarks op e = false := by
  cases e <;> first | rfl | cases h
theorem plain_ix {e : Expr} (h : notSlice e = true) : PlainIx e := by
  intro o i
  cases e <;> first | rfl | cases h
theorem folded_set {e : Expr} {env : PySem.Env} (h : notSet e = true) (x : Value) : foldedSetIterable e env x = pure x := by
  cases e <;> first | rfl | cases h
theorem plainT_ok {e : Expr} {env : PySem.Env} (h : plainT e = true) (whole : Sem Value) : isTrue e env whole = (do let v ← whole; standAt e.pos; holding [v] (truthy v)) := by
  cases e with
  | UnaryOp op x p => cases op <;> first | rfl | cases h
  | _ => first | rfl | cases h
/-- no star among them -/
def noStars : List Expr → Bool
  | [] => true
  | e :: es => notStar e && noStars es
theorem chkEs_noStars {T : Tb} {sc : Scope} : ∀ {ms : Exs} {es : List Expr}, chkEs T sc ms es = true → noStars es = true
  | .nil, [], _ => rfl
  | .cons m ms, e :: es, h => by
    unfold chkEs at h
    rw [Bool.and_eq_true, Bool.and_eq_true] at h
    unfold noStars
    rw [h.1.1, chkEs_noStars h.2]
    rfl
  | .nil, _ :: _, h => by unfold chkEs at h; cases h
  | .cons _ _, [], h => by unfold chkEs at h; cases h
theorem noStars_any {es : List Expr} {env : PySem.Env} {pos : Pos} (h : noStars es = true) : (backTo pos (starEach es env)).any (·.1) = false := by
  induction es with
  | nil => rfl
  | cons e es ih =>
    unfold noStars at h
    rw [Bool.and_eq_true] at h
    rw [star_cons h.1]
    show (false || (backTo pos (starEach es env)).any (·.1)) = false
    rw [ih h.2]
    rfl
theorem bltName_mem (f : Blt) : bltName f ∈ bltNames := by cases f <;> decide +kernel
theorem boot_blt (f : Blt) : bootBuiltins (bltName f) = some (blTy f) := by cases f <;> decide +kernel
theorem blt_name (f : Blt) : bltName f ≠ "__name__" ∧ (bltName f == ("__debug__" : Str)) = false := by cases f <;> exact ⟨by decide +kernel, by decide +kernel⟩
end GB

/-! GExpr: the terms' reckoning is what the expressions do. -/
namespace GB
open PySem PySem.Spec PyProof.Rows L2

/-! ### rules of the layer for plain values: subscripts, slices, isinstance -/
section
variable {X : Cx}
theorem atI_at {α : Type} (xs : List α) (i : Int) : atI xs i = at? xs i := by
  unfold atI at?
  show (L2.ixN xs.length i).bind _ = _
  have e : L2.ixN xs.length i = GB.ixN xs.length i := rfl
  rw [e]
  cases GB.ixN xs.length i <;> rfl
theorem reps_at {K : KX} {G : Gh} {H : Hp} {vs : List V} {xs : List PV} (r : Reps K G H vs xs) {i : Int} {z : PV} (h : at? xs i = some z) : ∃ v, atI vs i = some v ∧ Rep K G H v z := by
  rw [atI_at]
  unfold at? at h ⊢
  rw [r.length]
  split at h
  · exact r.get h
  · cases h
theorem at_map {α β : Type} {f : α → β} {xs : List α} {i : Int} {z : α} (h : at? xs i = some z) : at? (xs.map f) i = some (f z) := by
  unfold at? at h ⊢
  rw [List.length_map]
  split at h
  · rw [List.getElem?_map, h]
    rfl
  · cases h
def rIdx (K : KX) : R2 := fun x y H Q => ∃ G st px py z, Wr G H st ∧ WRep K G H x px ∧ WRep K G H y py ∧ idxop px py = some z ∧ PostV K G H z false Q
theorem ix_idx : IxR X (rIdx X.kx) := by
  intro value slice pins s σ H x y v u Q I rx ry h hs
  obtain ⟨G, st, px, py, z, w, wx, wy, e, q⟩ := h
  unfold idxop at e
  split at e
  · rename_i xs i
    obtain ⟨p, vs, rfl, h1, r⟩ := wx.tup
    obtain ⟨v', h2, r2⟩ := reps_at r e
    rw [wy.int] at ry
    exact ix_tup value slice pins s σ H _ _ v u Q I rx ry ⟨p, vs, i, v', rfl, rfl, h1, h2, q.val r2⟩ hs
  · rename_i xs i
    obtain ⟨p, vs, rfl, h1, _, r⟩ := wx.lst' w
    obtain ⟨v', h2, r2⟩ := reps_at r e
    rw [wy.int] at ry
    exact ix_list value slice pins s σ H _ _ v u Q I rx ry ⟨p, vs, i, v', rfl, rfl, .inl (.inl h1), h2, q.val r2⟩ hs
  · rename_i xs i
    split at e
    · rename_i k hk
      cases e
      obtain ⟨p, rfl, h1⟩ := wx.scr
      rw [wy.int] at ry
      exact ix_list value slice pins s σ H _ _ v u Q I rx ry ⟨p, _, i, .int k, rfl, rfl, h1, by rw [atI_at]; exact at_map hk, q.val (.int _)⟩ hs
    · cases e
  · cases e
theorem sIx_same (n d : Nat) (o : Option Int) : HT.sIx n d o = GB.sIx n d o := by
  cases o <;> rfl
theorem cut_same (xs : List V) (lo hi : Option Int) : cutV xs lo hi = cut xs lo hi := by
  unfold cutV cut
  rw [sIx_same, sIx_same]
theorem Reps.cut {K : KX} {G : Gh} {H : Hp} {vs : List V} {xs : List PV} (r : Reps K G H vs xs) (lo hi : Option Int) : Reps K G H (GB.cut vs lo hi) (GB.cut xs lo hi) := by
  unfold GB.cut
  rw [r.length]
  exact (r.drop _).take _
theorem cut_all {α : Type} {xs : List α} {lo hi : Option Int} (h : GB.sIx xs.length 0 lo = 0 ∧ GB.sIx xs.length xs.length hi = xs.length) : GB.cut xs lo hi = xs := by
  unfold GB.cut
  rw [h.1, h.2]
  simp
def rCut (K : KX) : V → Option Int → Option Int → Hp → VK → Prop := fun x lo hi H Q => ∃ G st px z fr, Wr G H st ∧ WRep K G H x px ∧ cutop px lo hi = some (z, fr) ∧ PostV K G H z fr Q
theorem sl_cut : SlR X (rCut X.kx) := by
  intro pins s σ H x v vl vu lo hi sl Q I rx hs pl pu h
  obtain ⟨G, st, px, z, fr, w, wx, e, q⟩ := h
  unfold cutop at e
  split at e
  · rename_i xs
    cases e
    obtain ⟨p, vs, rfl, h1, r⟩ := wx.tup
    refine sl_tupA pins s σ H _ v vl vu lo hi sl Q I rx hs pl pu ⟨p, vs, rfl, h1, fun c => ?_, fun _ p' hp => ?_⟩
    · rw [sIx_same, sIx_same, r.length] at c
      rw [cut_all c] at q
      exact q.val (.tup h1 r)
    · rw [cut_same]
      exact q.tup w (r.cut lo hi) hp
  · rename_i xs
    cases e
    obtain ⟨p, vs, rfl, h1, _, r⟩ := wx.lst' w
    refine sl_list pins s σ H _ v vl vu lo hi sl Q I rx hs pl pu ⟨p, vs, rfl, .inl (.inl h1), fun p' hp => ?_⟩
    rw [cut_same]
    exact q.lst w (r.cut lo hi) hp
  · cases e
/-- what a plain value's kind is -/
def pvTy : PV → Option String
  | .non => some "NoneType" | .bl _ => some "bool" | .int _ => some "int" | .str _ => some "str" | .tup _ => some "tuple" | .lst _ => some "list" | .scr _ => some "list" | _ => none
theorem wrep_ty {K : KX} {G : Gh} {H : Hp} {st : S} {v : V} {x : PV} {n : String} (h : WRep K G H v x) (w : Wr G H st) (e : pvTy x = some n) : TyX K.K H v (.type n) := by
  have sq : ∀ {p : Addr} {is : List V}, SqL K H p is → TyX K.K H (.ref p) (.type "list") := fun q => by
    rcases q with (q | ⟨o, q⟩) | ⟨o, _, _, h1, h2, _⟩
    · exact .base (.lst q)
    · exact .base (.frz q)
    · exact .kList h1 h2
  have sqt : ∀ {p : Addr} {is : List V}, SqT K H p is → TyX K.K H (.ref p) (.type "tuple") := fun q => by
    rcases q with (q | ⟨o, q⟩) | ⟨o, _, _, h1, h2, _⟩
    · exact .base (.tup q)
    · exact .fTuple q
    · exact .kTuple h1 h2
  cases x <;> simp only [pvTy, Option.some.injEq] at e <;> first | (subst e) | cases e
  · rw [h.non]; exact .base .non
  · rw [h.bl]; exact .base (.bl _)
  · rw [h.int]; exact .base (.int _)
  · rw [h.str]; exact .base (.str _)
  · obtain ⟨p, vs, rfl, h1, _⟩ := h.tup
    exact sqt h1
  · obtain ⟨p, vs, rfl, h1, _⟩ := h.lst' w
    exact sq (.inl (.inl h1))
  · obtain ⟨p, rfl, h1⟩ := h.scr
    exact sq h1
/-- the built-in type behind a name -/
def tyStr : Ty → String
  | .int => "int" | .bool => "bool" | .str => "str" | .tuple => "tuple" | .list => "list" | _ => ""
theorem tyOf_kit {K : KX} {x : PV} {t : Ty} {nm : Str} {b : Bool} (h : tyOf x t = some b) (hn : tyName t = some nm) : ∃ n, pvTy x = some n ∧ PySem.W.kitOne K.K (.type n) (.type (tyStr t)) = some b := by
  cases t <;> cases hn <;> cases x <;> simp [tyOf] at h <;> subst h <;> exact ⟨_, rfl, kit_ty (by decide +kernel)⟩
theorem ty_boot {t : Ty} {nm : Str} (hn : tyName t = some nm) : nm ∈ bltNames ∧ bootBuiltins nm = some (.type (tyStr t)) ∧ nm ≠ "__name__" ∧ (nm == ("__debug__" : Str)) = false := by
  cases t <;> cases hn <;> exact ⟨by decide +kernel, by decide +kernel, by decide +kernel, by decide +kernel⟩
end
end GB

/-! GSnd: the terms' reckoning is what the expressions do, by induction over the terms. -/
namespace GB
open PySem PySem.Spec PyProof.Rows L2

/-! ### immutable values and what calls may freeze -/
section
variable {K : KX} {G G' : Gh} {H H' : Hp} {st : S}
mutual
theorem Rep.immu (hc : G'.ca = G.ca) (hk : G'.k = G.k) (ho : G'.oo = G.oo) {v : V} {x : PV} : Rep K G H v x → x.imm = true → Rep K G' H v x
  | .non, _ => .non
  | .bl b, _ => .bl b
  | .int i, _ => .int i
  | .str s, _ => .str s
  | .tup h r, e => .tup h (Reps.immu hc hk ho r (by unfold PV.imm at e; exact e))
  | .lst _ _ _, e => by unfold PV.imm at e; cases e
  | .scr _, e => by unfold PV.imm at e; cases e
  | .cnt h, _ => .cnt (hc ▸ h)
  | .obj h1 h2 h3, _ => .obj (hk.trans h1) (by rw [ho]; exact h2) h3
theorem Reps.immu (hc : G'.ca = G.ca) (hk : G'.k = G.k) (ho : G'.oo = G.oo) {vs : List V} {xs : List PV} : Reps K G H vs xs → PV.imms xs = true → Reps K G' H vs xs
  | .nil, _ => .nil
  | .cons h r, e => by
    unfold PV.imms at e
    rw [Bool.and_eq_true] at e
    exact .cons (Rep.immu hc hk ho h e.1) (Reps.immu hc hk ho r e.2)
end
/-- all lists that stand are lent -/
def Gh.lend (G : Gh) (H : Hp) : Gh := { G with L := fun p => G.L p ∨ (¬ G.mut p ∧ ∃ vs, H p = some (.lst vs)) }
theorem Gr.lend : Gr G (G.lend H) := ⟨fun _ z => Or.inl z, fun _ z => z, rfl, OoLe.refl⟩
theorem Wr.lend (w : Wr G H st) : Wr (G.lend H) H st := w.keep ⟨fun p h => h.elim (w.lm p) (fun z => z.1), fun p h => h.elim (w.lt p) (fun z => let ⟨_, e⟩ := z.2; ⟨_, e⟩), w.cn, w.co, w.om⟩ Gr.lend rfl KeepL.refl (fun _ _ _ z => z) fun _ z => z
theorem WRep.lend (w : Wr G H st) {v : V} {x : PV} (h : WRep K G H v x) : Rep K (G.lend H) H v x := by
  cases h with
  | rep r => exact r.gr Gr.lend KeepL.refl
  | lst m e r => exact .lst (.inr ⟨m, _, e⟩) e (r.gr Gr.lend KeepL.refl)
theorem WReps.lend (w : Wr G H st) : ∀ {vs : List V} {xs : List PV}, WReps K G H vs xs → Reps K (G.lend H) H vs xs
  | _, _, .nil => .nil
  | _, _, .cons a b => .cons (a.lend w) (WReps.lend w b)
theorem WReps.mono (w : Wr G H st) (l : Le G G' H) (k : Keep G H H') : ∀ {vs : List V} {xs : List PV}, WReps K G H vs xs → WReps K G' H' vs xs
  | _, _, .nil => .nil
  | _, _, .cons a b => .cons (a.mono w l k) (WReps.mono w l k b)
/-- the ghost without what was lent -/
def Gh.unl (G' G : Gh) : Gh := { G' with L := G.L }
theorem FReps.comb {Gu : Gh} (g : Gr G Gu) (k : KeepL G H H') (om : ∀ p, G'.om p → Gu.om p) : ∀ {vs : List V} {ws : List (Option (List V))} {xs ys : List PV}, FReps G H vs ws xs → FReps G' H' vs ws ys → FReps Gu H' vs ws xs
  | _, _, _, _, .nil, _ => .nil
  | _, _, _, _, .val r n b t, .val _ _ _ t' => .val (by rw [g.k]; exact r.gr g k) n b (FReps.comb g k om t t')
  | _, _, _, _, .lst _ _ r b t, .lst m e _ _ t' => .lst (om _ m) e (by rw [g.k]; exact r.gr g k) b (FReps.comb g k om t t')
theorem sameV_at {s s' : S} (h : sameV s s' = true) {j : Nat} {ov ov' : OV} (e : s.ob[j]? = some ov) (e' : s'.ob[j]? = some ov') : ov'.v = ov.v := by
  have h : s'.ob.map (·.v) = s.ob.map (·.v) := beq_iff_eq.mp h
  have h1 := congrArg (fun l => l[j]?) h
  simp only [List.getElem?_map, e, e', Option.map_some] at h1
  exact Option.some.inj h1
theorem sameV_len {s s' : S} (h : sameV s s' = true) : s'.ob.length = s.ob.length := by
  have h : s'.ob.map (·.v) = s.ob.map (·.v) := beq_iff_eq.mp h
  have h1 := congrArg List.length h
  simpa using h1
/-- objects of the same versions are the same objects -/
theorem oo_same (w : Wr G H st) {st' : S} (w' : Wr G' H' st') (o : OoLe G.oo G'.oo) (sv : sameV st st' = true) : G'.oo = G.oo := by
  apply List.ext_getElem?
  intro j
  cases e : G.oo[j]? with
  | none =>
    have h1 := List.getElem?_eq_none_iff.mp e
    exact List.getElem?_eq_none_iff.mpr (by rw [w'.ol, sameV_len sv, ← w.ol]; exact h1)
  | some g =>
    obtain ⟨g', e', _, _, _, _, h⟩ := o j g e
    have hj : j < G.oo.length := (List.getElem?_eq_some_iff.mp e).1
    have h1 : j < st.ob.length := by rw [← w.ol]; exact hj
    have h2 : j < st'.ob.length := by rw [sameV_len sv]; exact h1
    have a1 := w.ob j g _ e (List.getElem?_eq_getElem h1)
    have a2 := w'.ob j g' _ e' (List.getElem?_eq_getElem h2)
    rw [e', h (by rw [a2.v, a1.v]; exact sameV_at sv (List.getElem?_eq_getElem h1) (List.getElem?_eq_getElem h2))]
/-- the objects as they were told ahead -/
theorem Wr.told {st' : S} (w : Wr G H st) (w' : Wr G' H' st') (o : OoLe G.oo G'.oo) (sv : sameV st st' = true) {Gu : Gh} (b : Wb Gu H' { st' with ob := st.ob }) (g : Gr G Gu) (k : KeepL G H H') (om : ∀ p, G'.om p → Gu.om p) (eo : Gu.oo = G'.oo) (ek : Gu.k = G'.k) : Wr Gu H' { st' with ob := st.ob } := by
  have es := oo_same w w' o sv
  refine ⟨b, by rw [eo, es]; exact w.ol, fun j q ov h1 h2 => ?_, by rw [eo]; exact w'.ds, by rw [eo]; exact w'.da⟩
  rw [eo, es] at h1
  have h2 : st.ob[j]? = some ov := h2
  obtain ⟨a1, a2, a3, a4⟩ := w.ob j q ov h1 h2
  have hj : j < st'.ob.length := by rw [sameV_len sv]; exact (List.getElem?_eq_some_iff.mp h2).1
  obtain ⟨b1, b2, b3, b4⟩ := w'.ob j q _ (by rw [es]; exact h1) (List.getElem?_eq_getElem hj)
  refine ⟨a1, a2, om _ b3, ?_⟩
  split at a4
  · rename_i hc
    rw [if_pos hc] at b4 ⊢
    obtain ⟨c1, c2, c3⟩ := a4
    obtain ⟨d1, d2, d3⟩ := b4
    exact ⟨c1, by rw [ek]; exact d2, c3.gr g k⟩
  · rename_i hc
    rw [if_neg hc] at b4 ⊢
    obtain ⟨c1, c2, c3⟩ := a4
    obtain ⟨d1, d2, d3⟩ := b4
    exact ⟨by rw [ek]; exact d1, c2, c3.comb g k om d3⟩
theorem After.unlend {st' : S} (w : Wr G H st) (a : After (G.lend H) H st' G' H') (sv : sameV st st' = true) : After G H { st' with ob := st.ob } (G'.unl G) H' := by
  refine ⟨⟨fun _ h => h, fun _ h => .inl h, a.le.m, a.le.mn, a.le.c, a.le.k, a.le.o⟩, a.keep, ?_⟩
  exact w.told a.wr a.le.o sv ⟨fun p h => a.wr.lm p (a.le.l p (.inl h)), fun p h => a.wr.lt p (a.le.l p (.inl h)), a.wr.cn, a.wr.co, a.wr.om⟩ ⟨fun _ h => h, a.le.c, a.le.k, a.le.o⟩ (Keep.l (G := G) a.keep w.toWb) (fun _ z => z) rfl rfl
theorem ResOk.unlend {st' : S} {v : V} {r : PV × Bool} (w : Wr G H st) (a : After (G.lend H) H st' G' H') (h : ResOk K H G' H' v r.1 r.2) (im : immR r = true) : ResOk K H (G'.unl G) H' v r.1 r.2 := by
  obtain ⟨x, fr⟩ := r
  unfold ResOk at h ⊢
  cases fr with
  | false =>
    simp only [Bool.false_eq_true, if_false] at h ⊢
    unfold immR at im
    simp only [Bool.false_and, Bool.or_false] at im
    exact Rep.immu (G := G') (G' := G'.unl G) rfl rfl rfl h im
  | true =>
    simp only [if_true] at h ⊢
    obtain ⟨p, vs, xs, e1, e2, m, nl, hn, e, r⟩ := h
    subst e2
    unfold immR at im
    simp only [PV.imm, Bool.false_or, Bool.true_and] at im
    refine ⟨p, vs, xs, e1, rfl, m, fun l => ?_, hn, e, Reps.immu (G := G') (G' := G'.unl G) rfl rfl rfl r im⟩
    obtain ⟨o, q⟩ := w.lt p l
    rw [hn] at q
    cases q
end

/-! ### lists of parts -/
def TAz (K : KX) (ec : Nat → Option Value) (Γ : Gam) (W : WX) (ms : Exs) : TA := fun σ H Q => ∃ G env st, Wr G H st ∧ EnvOk K G env σ H ∧
  wpM (evals Γ ms env) st (fun xs st' => ∀ G' H' vs, After G H st' G' H' → Reps K G' H' vs xs → Q vs H') (EXC ec W σ G H)
def TAb (K : KX) (ec : Nat → Option Value) (Γ : Gam) (W : WX) (ms : Exs) : TA := fun σ H Q => ∃ G env st, Wr G H st ∧ EnvOk K G env σ H ∧
  wpM (evalsB Γ ms env) st (fun xs st' => ∀ G' H' vs, After G H st' G' H' → WReps K G' H' vs xs → Q vs H') (EXC ec W σ G H)
section
variable {K : KX} {ec : Nat → Option Value} {Γ : Gam} {W : WX} {σ : L2.St} {env : Envi} {G G₁ : Gh} {H H₁ : Hp} {st st₁ : S}
theorem Pl.bindAz {β : Type} {ms : Exs} {f : List PV → M β} {ok : β → S → Prop} {R : List V → Hp → Prop} (p : Pl K ec W σ env G H st G₁ H₁ st₁) (h : wpM (M.bind (evals Γ ms env) f) st₁ ok (EXC ec W σ G H))
    (k : ∀ xs st2 G2 H2 vs, Pl K ec W σ env G H st G2 H2 st2 → After G₁ H₁ st2 G2 H2 → Reps K G2 H2 vs xs → wpM (f xs) st2 ok (EXC ec W σ G H) → R vs H2) : TAz K ec Γ W ms σ H₁ R := by
  rw [wpM_bind] at h
  exact ⟨G₁, env, st₁, p.a.wr, p.ev, wpM_mono h (fun x st2 q G2 H2 v b r => k x st2 G2 H2 v (p.step b) b r q) fun kk st2 q => EXC.mono p.w p.a q⟩
theorem Pl.bindAb {β : Type} {ms : Exs} {f : List PV → M β} {ok : β → S → Prop} {R : List V → Hp → Prop} (p : Pl K ec W σ env G H st G₁ H₁ st₁) (h : wpM (M.bind (evalsB Γ ms env) f) st₁ ok (EXC ec W σ G H))
    (k : ∀ xs st2 G2 H2 vs, Pl K ec W σ env G H st G2 H2 st2 → After G₁ H₁ st2 G2 H2 → WReps K G2 H2 vs xs → wpM (f xs) st2 ok (EXC ec W σ G H) → R vs H2) : TAb K ec Γ W ms σ H₁ R := by
  rw [wpM_bind] at h
  exact ⟨G₁, env, st₁, p.a.wr, p.ev, wpM_mono h (fun x st2 q G2 H2 v b r => k x st2 G2 H2 v (p.step b) b r q) fun kk st2 q => EXC.mono p.w p.a q⟩
/-- what is wanted here, wanted from here -/
theorem Pl.okE (p : Pl K ec W σ env G H st G₁ H₁ st₁) {r : PV × Bool} {st2 : S} {Q : VK} (q : OKE K G H Q r st2) : OKE K G₁ H₁ Q r st2 := fun G' H' v b h => by
  refine q G' H' v (p.a.trans p.w b) ?_
  obtain ⟨x, fr⟩ := r
  unfold ResOk at h ⊢
  cases fr with
  | false => exact h
  | true =>
    simp only [if_true] at h ⊢
    obtain ⟨a, vs, xs, h1, h2, h3, h4, h5, h6, h7⟩ := h
    exact ⟨a, vs, xs, h1, h2, h3, h4, p.a.keep.dom p.w p.a.le p.a.wr h5, h6, h7⟩
/-- what is left, from here -/
theorem Pl.goE (p : Pl K ec W σ env G H st G₁ H₁ st₁) {m : Ex} {Q : VK} (h : wpM (evE Γ false m env) st₁ (OKE K G H Q) (EXC ec W σ G H)) : TEv K ec Γ W m σ H₁ Q :=
  ⟨G₁, env, st₁, p.a.wr, p.ev, wpM_mono h (fun _ _ q => p.okE q) fun kk st2 q => EXC.mono p.w p.a q⟩
end

/-! ### from whole to lent -/
theorem evE_else {Γ : Gam} {m : Ex} {env : Envi} (h : ∀ i, m ≠ .var i) : evE Γ true m env = evE Γ false m env := by
  cases m <;> first | exact absurd rfl (h _) | rfl
theorem pe_lent {X : Cx} {ec : Nat → Option Value} {Γ : Gam} {W : WX} {m : Ex} {e : Expr} (h : PE X e (TEv X.kx ec Γ W m)) (n : ∀ i, m ≠ .var i) : PE X e (TBv X.kx ec Γ W m) := by
  refine PE_imp h fun σ H Q ⟨G, env, st, w, eo, q⟩ => ⟨G, env, st, w, eo, ?_⟩
  unfold evalB fstM at q
  rw [evE_else n, wpM_bind] at q
  exact wpM_mono q (fun r st' q G' H' v a ro => q G' H' v a ro.wrep) fun _ _ z => z
theorem pe_varB {X : Cx} {ec : Nat → Option Value} {Γ : Gam} {W : WX} {i : Nat} {x : Str} {pos : Pos} (hi : X.N[i]? = some x) (hv : Vis X.env.scope x) (hd : (x == ("__debug__" : Str)) = false ∧ (x == ("__classdict__" : Str)) = false) : PE X (.Name x pos) (TBv X.kx ec Γ W (.var i)) := by
  refine PE_imp (pe_var hi hv hd.1 hd.2) fun σ H Q ⟨G, env, st, w, eo, q⟩ => ?_
  unfold evalB fstM at q
  rw [wpM_bind] at q
  unfold evE at q
  obtain ⟨z, e, q⟩ := wpM_ofO q
  simp only [if_true] at e
  split at e
  · rename_i y hy
    cases e
    unfold getB at hy
    split at hy
    · rename_i y' b he
      cases hy
      obtain ⟨v, h1, h2⟩ := eo.get he
      exact ⟨v, h1, q G H v (After.refl w) h2⟩
    · cases hy
  · cases e
theorem pe_varE {X : Cx} {ec : Nat → Option Value} {Γ : Gam} {W : WX} {i : Nat} {x : Str} {pos : Pos} (hi : X.N[i]? = some x) (hv : Vis X.env.scope x) (hd : (x == ("__debug__" : Str)) = false ∧ (x == ("__classdict__" : Str)) = false) : PE X (.Name x pos) (TEv X.kx ec Γ W (.var i)) := by
  refine PE_imp (pe_var hi hv hd.1 hd.2) fun σ H Q ⟨G, env, st, w, eo, q⟩ => ?_
  unfold evE at q
  obtain ⟨z, e, q⟩ := wpM_ofO q
  simp only [Bool.false_eq_true, if_false] at e
  split at e
  · rename_i y hy
    cases e
    unfold getZ at hy
    split at hy
    · rename_i y' he
      cases hy
      obtain ⟨v, h1, h2⟩ := eo.fz i _ he
      exact ⟨v, h1, q G H v (After.refl w) (by unfold ResOk; rw [if_neg Bool.false_ne_true]; exact h2)⟩
    · cases hy
  · cases e
/-- a reckoned value told by its words -/
theorem pe_const {X : Cx} {ec : Nat → Option Value} {Γ : Gam} {W : WX} {m : Ex} {e : Expr} {v : V} {x : PV} (h : PE X e (tC v)) (he : ∀ env, evE Γ false m env = M.ret (x, false)) (r : ∀ G H, Rep X.kx G H v x) : PE X e (TEv X.kx ec Γ W m) := by
  refine PE_imp h fun σ H Q ⟨G, env, st, w, eo, q⟩ => ?_
  rw [he] at q
  exact q G H v (After.refl w) (by unfold ResOk; rw [if_neg Bool.false_ne_true]; exact r G H)

theorem room_units {X : Cx} (hu : X.A.units + 130 < cLine) : X.A.units + 64 < cLine := by omega
end GB

/-! GSndE: each construct's case. -/
namespace GB
open PySem PySem.Spec PyProof.Rows L2
section
variable {ec : Nat → Option Value} {Γ : Gam} {T : Tb}
theorem lentOf {m : Ex} {e : Expr} {X : Cx} {W : WX} {sc csc : Scope} (C : Ctx ec T.FT T.GT T.MT T.CT Γ X W sc csc T.N) (hc : chkE T sc m e = true) (h : PE X e (TEv X.kx ec Γ W m)) : PE X e (TBv X.kx ec Γ W m) := by
  by_cases hv : ∃ i, m = .var i
  · obtain ⟨i, rfl⟩ := hv
    cases e <;> try exact nomatch (show false = true from hc)
    rename_i x pos
    have hc' : (decide (T.N[i]? = some x) && visB sc x && okName x) = true := hc
    rw [Bool.and_eq_true, Bool.and_eq_true] at hc'
    obtain ⟨⟨h1, h2⟩, h3⟩ := hc'
    exact pe_varB (by rw [C.hN]; exact of_decide_eq_true h1) (by rw [C.hsc]; exact visB_ok h2) (okName_ok h3)
  · exact pe_lent h fun i e => hv ⟨i, e⟩
theorem ptOfB {m : Ex} {e : Expr} {X : Cx} {W : WX} (hp : plainT e = true) (h : PE X e (TBv X.kx ec Γ W m)) : PT X e (TTv X.kx ec Γ W m) := by
  refine PT_imp (pt_val h (fun w => plainT_ok hp w)) fun σ H Q ⟨G, env, st, w, eo, q⟩ => ⟨G, env, st, w, eo, ?_⟩
  refine wpM_mono q (fun x st' ⟨b, e1, k⟩ G' H' v a r => ?_) fun _ _ z => z
  subst e1
  exact ⟨b, r.bl, k G' H' a⟩
/-- what is shown of a term: its expression, the same as a test -/
def SE (ec : Nat → Option Value) (Γ : Gam) (T : Tb) (m : Ex) : Prop := ∀ (e : Expr) (X : Cx) (W : WX) (sc csc : Scope), Ctx ec T.FT T.GT T.MT T.CT Γ X W sc csc T.N → chkE T sc m e = true → PE X e (TEv X.kx ec Γ W m) ∧ PT X e (TTv X.kx ec Γ W m)
theorem SE.plain {m : Ex} (h : ∀ (e : Expr) (X : Cx) (W : WX) (sc csc : Scope), Ctx ec T.FT T.GT T.MT T.CT Γ X W sc csc T.N → chkE T sc m e = true → plainT e = true ∧ PE X e (TEv X.kx ec Γ W m)) : SE ec Γ T m := fun e X W sc csc C hc => by
  obtain ⟨h1, h2⟩ := h e X W sc csc C hc
  exact ⟨h2, ptOfB h1 (lentOf C hc h2)⟩
theorem SE.lent {m : Ex} (h : SE ec Γ T m) {e : Expr} {X : Cx} {W : WX} {sc csc : Scope} (C : Ctx ec T.FT T.GT T.MT T.CT Γ X W sc csc T.N) (hc : chkE T sc m e = true) : PE X e (TBv X.kx ec Γ W m) := lentOf C hc (h e X W sc csc C hc).1
theorem SE.pe {m : Ex} (h : SE ec Γ T m) {e : Expr} {X : Cx} {W : WX} {sc csc : Scope} (C : Ctx ec T.FT T.GT T.MT T.CT Γ X W sc csc T.N) (hc : chkE T sc m e = true) : PE X e (TEv X.kx ec Γ W m) := (h e X W sc csc C hc).1
theorem SE.pt {m : Ex} (h : SE ec Γ T m) {e : Expr} {X : Cx} {W : WX} {sc csc : Scope} (C : Ctx ec T.FT T.GT T.MT T.CT Γ X W sc csc T.N) (hc : chkE T sc m e = true) : PT X e (TTv X.kx ec Γ W m) := (h e X W sc csc C hc).2
theorem sE_var (i : Nat) : SE ec Γ T (.var i) := .plain fun e X W sc csc C hc => by
  cases e <;> try exact nomatch (show false = true from hc)
  rename_i x pos
  have hc' : (decide (T.N[i]? = some x) && visB sc x && okName x) = true := hc
  rw [Bool.and_eq_true, Bool.and_eq_true] at hc'
  obtain ⟨⟨h1, h2⟩, h3⟩ := hc'
  exact ⟨rfl, pe_varE (by rw [C.hN]; exact of_decide_eq_true h1) (by rw [C.hsc]; exact visB_ok h2) (okName_ok h3)⟩
theorem sE_int (i : Int) : SE ec Γ T (.int i) := .plain fun e X W sc csc C hc => by
  cases e <;> try exact nomatch (show false = true from hc)
  rename_i c k pos
  cases c <;> try exact nomatch (show false = true from hc)
  rename_i j
  have hc' : decide (i = j) = true := hc
  have := of_decide_eq_true hc'
  subst this
  exact ⟨rfl, pe_const pe_int (fun _ => by unfold evE; rfl) fun _ _ => .int i⟩
theorem sE_str (i : Str) : SE ec Γ T (.str i) := .plain fun e X W sc csc C hc => by
  cases e <;> try exact nomatch (show false = true from hc)
  rename_i c k pos
  cases c <;> try exact nomatch (show false = true from hc)
  rename_i j
  have hc' : decide (i = j) = true := hc
  have := of_decide_eq_true hc'
  subst this
  exact ⟨rfl, pe_const pe_str (fun _ => by unfold evE; rfl) fun _ _ => .str i⟩
theorem sE_bl (i : Bool) : SE ec Γ T (.bl i) := .plain fun e X W sc csc C hc => by
  cases e <;> try exact nomatch (show false = true from hc)
  rename_i c k pos
  cases c <;> try exact nomatch (show false = true from hc)
  rename_i j
  have hc' : (i == j) = true := hc
  have := beq_iff_eq.mp hc'
  subst this
  exact ⟨rfl, pe_const pe_bl (fun _ => by unfold evE; rfl) fun _ _ => .bl i⟩
theorem sE_non : SE ec Γ T .non := .plain fun e X W sc csc C hc => by
  cases e <;> try exact nomatch (show false = true from hc)
  rename_i c k pos
  cases c <;> try exact nomatch (show false = true from hc)
  exact ⟨rfl, pe_const pe_non (fun _ => by unfold evE; rfl) fun _ _ => .non⟩
theorem sE_glob (g : Nat) : SE ec Γ T (.glob g) := .plain fun e X W sc csc C hc => by
  cases e <;> try exact nomatch (show false = true from hc)
  rename_i x pos
  have hc' : (decide (T.GT g = some x) && glB sc x) = true := hc
  rw [Bool.and_eq_true] at hc'
  obtain ⟨h1, h2⟩ := hc'
  have h1 := of_decide_eq_true h1
  refine ⟨rfl, ?_⟩
  have gl : Gl X x := by
    show X.env.scope.names.lookup x = _
    rw [C.hsc]
    exact glB_ok h2
  cases hg : Γ.gl g with
  | none =>
    refine ⟨fun pins s σ H Q I q => ?_⟩
    obtain ⟨G, env, st, w, eo, q⟩ := q
    unfold evE at q
    rw [hg] at q
    exact q.elim
  | some z =>
    obtain ⟨nm, u, v, e1, e2, e3, e4, e5⟩ := C.gl g z hg
    rw [h1] at e1
    cases e1
    exact pe_const (pe_glob gl e3 e4 e2) (fun _ => by unfold evE; rw [hg]; rfl) e5
theorem sE_bin {op : BOp} {a b : Ex} (ha : SE ec Γ T a) (hb : SE ec Γ T b) : SE ec Γ T (.bin op a b) := .plain fun e X W sc csc C hc => by
  cases e <;> try exact nomatch (show false = true from hc)
  rename_i l o r pos
  have hc' : (opB op o && chkE T sc a l && chkE T sc b r) = true := hc
  rw [Bool.and_eq_true, Bool.and_eq_true] at hc'
  obtain ⟨⟨h1, h2⟩, h3⟩ := hc'
  cases opB_ok h1
  refine ⟨rfl, PE_imp (pe_op (op_bin op) (ha.lent C h2) (hb.lent C h3)) fun σ H Q ⟨G, env, st, w, eo, q⟩ => ?_⟩
  unfold evE at q
  refine (Pl.start w eo).bindB q fun x st1 G1 H1 v p1 a1 r1 q => p1.bindB q fun y st2 G2 H2 u p2 a2 r2 q => ?_
  obtain ⟨z, e1, q⟩ := wpM_ofO q
  exact ⟨G2, st2, x, y, z.1, z.2, p2.a.wr, r1.mono p1.a.wr a2.le a2.keep, r2, e1, p2.post q⟩
theorem sE_neg {a : Ex} (ha : SE ec Γ T a) : SE ec Γ T (.neg a) := .plain fun e X W sc csc C hc => by
  cases e <;> try exact nomatch (show false = true from hc)
  rename_i o l pos
  cases o <;> try exact nomatch (show false = true from hc)
  have hc' : chkE T sc a l = true := hc
  refine ⟨rfl, PE_imp (pe_un un_neg (ha.lent C hc')) fun σ H Q ⟨G, env, st, w, eo, q⟩ => ?_⟩
  unfold evE at q
  refine (Pl.start w eo).bindB q fun x st1 G1 H1 v p1 a1 r1 q => ?_
  obtain ⟨z, e1, q⟩ := wpM_ofO q
  split at e1
  · cases e1
    exact ⟨_, r1.int, p1.val q (.int _)⟩
  · cases e1
theorem sE_not {a : Ex} (ha : SE ec Γ T a) : SE ec Γ T (.not a) := fun e X W sc csc C hc => by
  cases e <;> try exact nomatch (show false = true from hc)
  rename_i o l pos
  cases o <;> try exact nomatch (show false = true from hc)
  have hc' : chkE T sc a l = true := hc
  refine ⟨PE_imp (pe_not (ha.lent C hc')) fun σ H Q ⟨G, env, st, w, eo, q⟩ => ?_, PT_imp (pt_not (ha.pt C hc')) fun σ H Q ⟨G, env, st, w, eo, q⟩ => ?_⟩
  · unfold evE at q
    refine (Pl.start w eo).bindB q fun x st1 G1 H1 v p1 a1 r1 q => ?_
    obtain ⟨z, e1, q⟩ := wpM_ofO q
    cases x <;> try contradiction
    cases e1
    exact ⟨_, r1.bl, p1.val q (.bl _)⟩
  · unfold evalB fstM evE at q
    rw [wpM_bind, wpM_bind] at q
    refine ⟨G, env, st, w, eo, wpM_mono q (fun x st' q => ?_) fun _ _ z => z⟩
    obtain ⟨z, e1, q⟩ := wpM_ofO q
    cases x <;> try contradiction
    cases e1
    obtain ⟨b, e2, k⟩ := q
    cases e2
    exact ⟨_, rfl, k⟩
theorem sE_cmp {op : COp} {a b : Ex} (ha : SE ec Γ T a) (hb : SE ec Γ T b) : SE ec Γ T (.cmp op a b) := fun e X W sc csc C hc => by
  cases e <;> try exact nomatch (show false = true from hc)
  rename_i l os rs pos
  rcases os with _ | ⟨o, _ | ⟨_, _⟩⟩ <;> try exact nomatch (show false = true from hc)
  rcases rs with _ | ⟨r, _ | ⟨_, _⟩⟩ <;> try exact nomatch (show false = true from hc)
  have hc' : (copB op o && notSet r && chkE T sc a l && chkE T sc b r) = true := hc
  simp only [Bool.and_eq_true] at hc'
  obtain ⟨⟨⟨h1, h2⟩, h3⟩, h4⟩ := hc'
  cases copB_ok h1
  refine ⟨PE_imp (pe_cmpR (op_cmp C.hu op) (ha.lent C h3) (hb.lent C h4) (mark_set h2)) fun σ H Q ⟨G, env, st, w, eo, q⟩ => ?_, PT_imp (pt_cmpR (op_cmp C.hu op) (ha.lent C h3) (hb.lent C h4) (mark_set h2)) fun σ H Q ⟨G, env, st, w, eo, q⟩ => ?_⟩
  · unfold evE at q
    refine (Pl.start w eo).bindB q fun x st1 G1 H1 v p1 a1 r1 q => p1.bindB q fun y st2 G2 H2 u p2 a2 r2 q => ?_
    obtain ⟨z, e1, q⟩ := wpM_ofO q
    split at e1
    · rename_i c hcm
      cases e1
      exact ⟨G2, st2, x, y, c, p2.a.wr, r1.mono p1.a.wr a2.le a2.keep, r2, hcm, p2.val q (.bl _)⟩
    · cases e1
  · unfold evalB fstM evE at q
    rw [wpM_bind] at q
    refine (Pl.start w eo).bindB q fun x st1 G1 H1 v p1 a1 r1 q => p1.bindB q fun y st2 G2 H2 u p2 a2 r2 q => ?_
    obtain ⟨z, e1, q⟩ := wpM_ofO q
    split at e1
    · rename_i c hcm
      cases e1
      obtain ⟨b, e2, k⟩ := q
      cases e2
      exact ⟨G2, st2, x, y, c, p2.a.wr, r1.mono p1.a.wr a2.le a2.keep, r2, hcm, c, rfl, k G2 H2 p2.a⟩
    · cases e1
theorem marks2 {o o' : CmpOp} {r r' : Expr} (h : notSet r' = true) : lastMarks [o, o'] [r, r'] = false := mark_set h
theorem sE_cmp2 {op op' : COp} {a b c : Ex} (ha : SE ec Γ T a) (hb : SE ec Γ T b) (hd : SE ec Γ T c) : SE ec Γ T (.cmp2 op op' a b c) := fun e X W sc csc C hc => by
  cases e <;> try exact nomatch (show false = true from hc)
  rename_i l os rs pos
  rcases os with _ | ⟨o, _ | ⟨o', _ | ⟨_, _⟩⟩⟩ <;> try exact nomatch (show false = true from hc)
  rcases rs with _ | ⟨r, _ | ⟨r', _ | ⟨_, _⟩⟩⟩ <;> try exact nomatch (show false = true from hc)
  have hc' : (copB op o && copB op' o' && notSet r' && chkE T sc a l && chkE T sc b r && chkE T sc c r') = true := hc
  simp only [Bool.and_eq_true] at hc'
  obtain ⟨⟨⟨⟨⟨h1, h1'⟩, h2⟩, h3⟩, h4⟩, h5⟩ := hc'
  cases copB_ok h1
  cases copB_ok h1'
  have key : ∀ {σ : L2.St} {H : Hp} {Q : VK} {G : Gh} {env : Envi} {st : S} {ok : PV × Bool → S → Prop}, Wr G H st → EnvOk X.kx G env σ H → wpM (evE Γ false (.cmp2 op op' a b c) env) st ok (EXC ec W σ G H) → (∀ b st' G' H', After G H st' G' H' → ok (.bl b, false) st' → Q (.bl b) H') →
      tChain (rCmp X.kx op) (rCmp X.kx op') (TBv X.kx ec Γ W a) (TBv X.kx ec Γ W b) (TBv X.kx ec Γ W c) σ H Q := fun {σ H Q G env st ok} w eo q kk => by
    unfold evE at q
    refine (Pl.start w eo).bindB q fun x st1 G1 H1 v p1 a1 r1 q => p1.bindB q fun y st2 G2 H2 u p2 a2 r2 q => ?_
    rw [wpM_bind] at q
    obtain ⟨z, e1, q⟩ := wpM_ofO q
    refine ⟨G2, st2, x, y, z, p2.a.wr, r1.mono p1.a.wr a2.le a2.keep, r2, e1, z, rfl, ?_⟩
    cases z with
    | false =>
      rw [if_neg Bool.false_ne_true]
      exact kk _ _ _ _ p2.a q
    | true =>
      rw [if_pos rfl]
      simp only [if_true] at q
      refine p2.bindB q fun t st3 G3 H3 u' p3 a3 r3 q => ?_
      obtain ⟨z, e1, q⟩ := wpM_ofO q
      split at e1
      · rename_i d hcm
        cases e1
        exact ⟨G3, st3, y, t, d, p3.a.wr, r2.mono p2.a.wr a3.le a3.keep, r3, hcm, kk _ _ _ _ p3.a q⟩
      · cases e1
  refine ⟨PE_imp (pe_chain (op_cmp C.hu op) (op_cmp C.hu op') (ha.lent C h3) (hb.lent C h4) (hd.lent C h5) (marks2 h2)) fun σ H Q ⟨G, env, st, w, eo, q⟩ => ?_, PT_imp (pt_chain (op_cmp C.hu op) (op_cmp C.hu op') (ha.lent C h3) (hb.lent C h4) (hd.lent C h5) (marks2 h2)) fun σ H Q ⟨G, env, st, w, eo, q⟩ => ?_⟩
  · exact key w eo q fun b st' G' H' aa o => o G' H' _ aa (by unfold ResOk; rw [if_neg Bool.false_ne_true]; exact .bl b)
  · unfold evalB fstM at q
    rw [wpM_bind] at q
    refine key w eo q fun b st' G' H' aa o => ?_
    obtain ⟨b', e2, k⟩ := o
    cases e2
    exact ⟨_, rfl, k G' H' aa⟩
theorem sE_ite {c a b : Ex} (hd : SE ec Γ T c) (ha : SE ec Γ T a) (hb : SE ec Γ T b) : SE ec Γ T (.ite c a b) := fun e X W sc csc C hc => by
  cases e <;> try exact nomatch (show false = true from hc)
  rename_i t x y pos
  have hc' : (chkE T sc c t && chkE T sc a x && chkE T sc b y) = true := hc
  simp only [Bool.and_eq_true] at hc'
  obtain ⟨⟨h1, h2⟩, h3⟩ := hc'
  refine ⟨PE_imp (pe_ifExp (hd.pt C h1) (ha.pe C h2) (hb.pe C h3)) fun σ H Q ⟨G, env, st, w, eo, q⟩ => ?_, ⟨fun pins s σ H Q I ⟨G, env, st, w, eo, q⟩ => ?_⟩⟩
  · unfold evE at q
    refine (Pl.start w eo).bindT q fun d st1 G1 H1 p1 a1 q => ?_
    cases d with
    | true =>
      rw [if_pos rfl]
      simp only [if_true] at q
      exact p1.goE q
    | false =>
      rw [if_neg Bool.false_ne_true]
      simp only [Bool.false_eq_true, if_false] at q
      exact p1.goE q
  · unfold evalB fstM evE at q
    rw [wpM_bind] at q
    have q1 : TTv X.kx ec Γ W c σ H (fun d H1 => if d = true then TTv X.kx ec Γ W a σ H1 Q else TTv X.kx ec Γ W b σ H1 Q) := by
      refine (Pl.start w eo).bindT q fun d st1 G1 H1 p1 a1 q => ?_
      have fin : ∀ {m : Ex}, wpM (evE Γ false m env) st1 (fun r s' => wpM (M.ret r.1) s' (fun x st' => ∃ b, x = .bl b ∧ ∀ G' H', After G H st' G' H' → Q b H') (EXC ec W σ G H)) (EXC ec W σ G H) → TTv X.kx ec Γ W m σ H1 Q := fun {m} q => by
        refine ⟨G1, env, st1, p1.a.wr, p1.ev, ?_⟩
        have q2 : wpM (evalB Γ m env) st1 (fun x st' => ∃ b, x = .bl b ∧ ∀ G' H', After G H st' G' H' → Q b H') (EXC ec W σ G H) := by
          by_cases hv : ∃ i, m = .var i
          · obtain ⟨i, rfl⟩ := hv
            unfold evE at q
            obtain ⟨z, e1, q⟩ := wpM_ofO q
            unfold evalB fstM evE
            simp only [Bool.false_eq_true, if_false] at e1
            split at e1
            · rename_i y' hy
              cases e1
              have : getB env i = some y' := by
                unfold getZ at hy
                unfold getB
                split at hy
                · rename_i he
                  rw [he]
                  exact hy
                · cases hy
              rw [if_pos rfl, this]
              exact q
            · cases e1
          · unfold evalB fstM
            rw [evE_else fun i e => hv ⟨i, e⟩, wpM_bind]
            exact q
        exact wpM_mono q2 (fun x st' ⟨b, e2, k⟩ => ⟨b, e2, fun G' H' aa => k G' H' (p1.a.trans p1.w aa)⟩) fun kk st2 q => EXC.mono p1.w p1.a q
      cases d with
      | true =>
        rw [if_pos rfl]
        simp only [if_true] at q
        exact fin q
      | false =>
        rw [if_neg Bool.false_ne_true]
        simp only [Bool.false_eq_true, if_false] at q
        exact fin q
    show wpAny _ _ (do if ← isTrue t X.env (eval t X.env) then isTrue x X.env (eval x X.env) else isTrue y X.env (eval y X.env)) _ _ _
    refine wpAny_bind (thn ((hd.pt C h1).run pins s σ H _ I q1) fun d s1 ⟨H1, I1, q2⟩ => ?_)
    cases d with
    | true => exact (ha.pt C h2).run pins s1 σ H1 Q I1 (by simpa using q2)
    | false => exact (hb.pt C h3).run pins s1 σ H1 Q I1 (by simpa using q2)
theorem sE_idx {a b : Ex} (ha : SE ec Γ T a) (hb : SE ec Γ T b) : SE ec Γ T (.idx a b) := .plain fun e X W sc csc C hc => by
  cases e <;> try exact nomatch (show false = true from hc)
  rename_i l r pos
  have hc' : (notSlice r && chkE T sc a l && chkE T sc b r) = true := hc
  simp only [Bool.and_eq_true] at hc'
  obtain ⟨⟨h1, h2⟩, h3⟩ := hc'
  refine ⟨rfl, PE_imp (pe_ix ix_idx (ha.lent C h2) (hb.lent C h3) (plain_ix h1)) fun σ H Q ⟨G, env, st, w, eo, q⟩ => ?_⟩
  unfold evE at q
  refine (Pl.start w eo).bindB q fun x st1 G1 H1 v p1 a1 r1 q => p1.bindB q fun y st2 G2 H2 u p2 a2 r2 q => ?_
  obtain ⟨z, e1, q⟩ := wpM_ofO q
  split at e1
  · rename_i c hcm
    cases e1
    exact ⟨G2, st2, x, y, c, p2.a.wr, r1.mono p1.a.wr a2.le a2.keep, r2, hcm, p2.post q⟩
  · cases e1
/-- a part of a slice -/
def TOv (K : KX) (ec : Nat → Option Value) (Γ : Gam) (W : WX) (m : Ex) : TO := fun σ H Q => ∃ G env st, Wr G H st ∧ EnvOk K G env σ H ∧
  wpM (if isOmit m then M.ret none else M.bind (evalB Γ m env) fun x => ofO (match asIntO x with | some i => some (some i) | none => none)) st (fun o st' => ∀ G' H', After G H st' G' H' → Q o H') (EXC ec W σ G H)
theorem po_of {m : Ex} (hm : SE ec Γ T m) {o : Option Expr} {X : Cx} {W : WX} {sc csc : Scope} (C : Ctx ec T.FT T.GT T.MT T.CT Γ X W sc csc T.N) (h : (match o with | none => isOmit m | some x => !isOmit m && chkE T sc m x) = true) : PO X o (TOv X.kx ec Γ W m) := by
  cases o with
  | none =>
    have h : isOmit m = true := h
    refine ⟨fun pins s σ H Q I ⟨G, env, st, w, eo, q⟩ => po_none.run pins s σ H Q I ?_⟩
    rw [if_pos h] at q
    exact q G H (After.refl w)
  | some x =>
    have h : (!isOmit m && chkE T sc m x) = true := h
    rw [Bool.and_eq_true, Bool.not_eq_true'] at h
    refine ⟨fun pins s σ H Q I ⟨G, env, st, w, eo, q⟩ => (po_some (hm.lent C h.2)).run pins s σ H Q I ?_⟩
    rw [if_neg (by rw [h.1]; exact Bool.false_ne_true)] at q
    refine (Pl.start w eo).bindB q fun x st1 G1 H1 v p1 a1 r1 q => ?_
    obtain ⟨z, e1, q⟩ := wpM_ofO q
    cases x <;> try contradiction
    cases e1
    exact ⟨_, r1.int, q G1 H1 p1.a⟩
theorem Pl.bindO {K : KX} {W : WX} {σ : L2.St} {env : Envi} {G G₁ : Gh} {H H₁ : Hp} {st st₁ : S} {β : Type} {m : Ex} {f : Option Int → M β} {ok : β → S → Prop} {R : Option Int → Hp → Prop} (p : Pl K ec W σ env G H st G₁ H₁ st₁)
    (h : wpM (M.bind (if isOmit m then M.ret none else M.bind (evalB Γ m env) fun x => ofO (match asIntO x with | some i => some (some i) | none => none)) f) st₁ ok (EXC ec W σ G H))
    (k : ∀ o st2 G2 H2, Pl K ec W σ env G H st G2 H2 st2 → After G₁ H₁ st2 G2 H2 → wpM (f o) st2 ok (EXC ec W σ G H) → R o H2) : TOv K ec Γ W m σ H₁ R := by
  rw [wpM_bind] at h
  exact ⟨G₁, env, st₁, p.a.wr, p.ev, wpM_mono h (fun x st2 q G2 H2 b => k x st2 G2 H2 (p.step b) b q) fun kk st2 q => EXC.mono p.w p.a q⟩
theorem sE_sli {a lo hi : Ex} (ha : SE ec Γ T a) (hl : SE ec Γ T lo) (hh : SE ec Γ T hi) : SE ec Γ T (.sli a lo hi) := .plain fun e X W sc csc C hc => by
  cases e <;> try exact nomatch (show false = true from hc)
  rename_i v s pos
  cases s <;> try exact nomatch (show false = true from hc)
  rename_i l h stp p2
  cases stp <;> try exact nomatch (show false = true from hc)
  unfold chkE at hc
  simp only [Bool.and_eq_true] at hc
  obtain ⟨⟨h1, h2⟩, h3⟩ := hc
  refine ⟨rfl, PE_imp (pe_slice sl_cut (ha.lent C h1) (po_of hl C (by cases l <;> exact h2)) (po_of hh C (by cases h <;> exact h3))) fun σ H Q ⟨G, env, st, w, eo, q⟩ => ?_⟩
  unfold evE at q
  refine (Pl.start w eo).bindB q fun x st1 G1 H1 v p1 a1 r1 q => p1.bindO q fun y st2 G2 H2 p2 a2 q => p2.bindO q fun y2 st3 G3 H3 p3 a3 q => ?_
  obtain ⟨z, e1, q⟩ := wpM_ofO q
  exact ⟨G3, st3, x, z.1, z.2, p3.a.wr, (r1.mono p1.a.wr a2.le a2.keep).mono p2.a.wr a3.le a3.keep, e1, p3.post q⟩
end
end GB

/-! GSndL: lists of terms; displays, and, or, calls, built-ins. -/
namespace GB
open PySem PySem.Spec PyProof.Rows L2
/-- a reckoning as an expression's reading -/
def TMv (K : KX) (ec : Nat → Option Value) (W : WX) (f : Envi → M (PV × Bool)) : TE := fun σ H Q => ∃ G env st, Wr G H st ∧ EnvOk K G env σ H ∧ wpM (f env) st (OKE K G H Q) (EXC ec W σ G H)
def TTMv (K : KX) (ec : Nat → Option Value) (W : WX) (f : Envi → M (PV × Bool)) : TT := fun σ H Q => ∃ G env st, Wr G H st ∧ EnvOk K G env σ H ∧ wpM (fstM (f env)) st (fun x st' => ∃ b, x = .bl b ∧ ∀ G' H', After G H st' G' H' → Q b H') (EXC ec W σ G H)
def TCv (K : KX) (ec : Nat → Option Value) (Γ : Gam) (W : WX) (cs : Exs) : TT := fun σ H Q => ∃ G env st, Wr G H st ∧ EnvOk K G env σ H ∧ wpM (evalCs Γ cs env) st (fun b st' => ∀ G' H', After G H st' G' H' → Q b H') (EXC ec W σ G H)
section
variable {ec : Nat → Option Value} {Γ : Gam} {T : Tb}
structure SEsR (ec : Nat → Option Value) (Γ : Gam) (T : Tb) (ms : Exs) (es : List Expr) (X : Cx) (W : WX) : Prop where
  z : PA X es (TAz X.kx ec Γ W ms)
  b : PA X es (TAb X.kx ec Γ W ms)
  and : es ≠ [] → ∀ pos, PE X (.BoolOp .And es pos) (TMv X.kx ec W (evalAnd Γ ms)) ∧ PW X (.BoolOp .And es pos) (TTMv X.kx ec W (evalAnd Γ ms))
  or : es ≠ [] → ∀ pos, PE X (.BoolOp .Or es pos) (TMv X.kx ec W (evalOr Γ ms)) ∧ PW X (.BoolOp .Or es pos) (TTMv X.kx ec W (evalOr Γ ms))
  cs : es.length ≤ 1 → PTs X es (TCv X.kx ec Γ W ms)
def SEs (ec : Nat → Option Value) (Γ : Gam) (T : Tb) (ms : Exs) : Prop := ∀ (es : List Expr) (X : Cx) (W : WX) (sc csc : Scope), Ctx ec T.FT T.GT T.MT T.CT Γ X W sc csc T.N → chkEs T sc ms es = true → SEsR ec Γ T ms es X W
theorem sEs_nil : SEs ec Γ T .nil := fun es X W sc csc C hc => by
  cases es with
  | cons e es => unfold chkEs at hc; cases hc
  | nil =>
    refine ⟨PA_imp pa_nil fun σ H Q ⟨G, env, st, w, eo, q⟩ => ?_, PA_imp pa_nil fun σ H Q ⟨G, env, st, w, eo, q⟩ => ?_, fun h => absurd rfl h, fun h => absurd rfl h, fun _ => ⟨fun pins s σ H Q I ⟨G, env, st, w, eo, q⟩ => pts_nil.run pins s σ H Q I ?_⟩⟩
    · unfold evals at q
      exact q G H [] (After.refl w) .nil
    · unfold evalsB at q
      exact q G H [] (After.refl w) .nil
    · unfold evalCs at q
      exact q G H (After.refl w)
theorem sEs_cons {m : Ex} {ms : Exs} (ha : SE ec Γ T m) (hs : SEs ec Γ T ms) : SEs ec Γ T (.cons m ms) := fun es X W sc csc C hc => by
  cases es with
  | nil => unfold chkEs at hc; cases hc
  | cons e es =>
    have hc0 := hc
    unfold chkEs at hc
    simp only [Bool.and_eq_true] at hc
    obtain ⟨⟨h1, h2⟩, h3⟩ := hc
    have R := hs es X W sc csc C h3
    refine ⟨?_, ?_, fun _ pos => ?_, fun _ pos => ?_, fun hl => ?_⟩
    · refine PA_imp (pa_cons (ha.pe C h2) R.z (star_cons h1)) fun σ H Q ⟨G, env, st, w, eo, q⟩ => ?_
      unfold evals at q
      rw [wpM_bind] at q
      refine ⟨G, env, st, w, eo, wpM_mono q (fun r st1 q G1 H1 v a r1 => ?_) fun _ _ z => z⟩
      obtain ⟨G2, a2, r2, _, _⟩ := a.freeze r1
      refine (⟨w, eo, a2⟩ : Pl X.kx ec W σ env G H st G2 H1 st1).bindAz q fun xs st3 G3 H3 vs p3 a3 rs q => ?_
      exact q G3 H3 (v :: vs) p3.a (.cons (r2.mono a2.wr a3.le a3.keep) rs)
    · refine PA_imp (pa_cons (ha.lent C h2) R.b (star_cons h1)) fun σ H Q ⟨G, env, st, w, eo, q⟩ => ?_
      unfold evalsB at q
      refine (Pl.start w eo).bindB q fun x st1 G1 H1 v p1 a1 r1 q => p1.bindAb q fun xs st3 G3 H3 vs p3 a3 rs q => ?_
      exact q G3 H3 (v :: vs) p3.a (.cons (r1.mono p1.a.wr a3.le a3.keep) rs)
    · cases es with
      | nil =>
        cases ms with
        | cons _ _ => unfold chkEs at h3; cases h3
        | nil =>
          refine ⟨PE_imp (pe_one (ha.lent C h2)) fun σ H Q ⟨G, env, st, w, eo, q⟩ => ?_, PW_imp (pw_and1 (ha.pt C h2)) fun σ H Q ⟨G, env, st, w, eo, q⟩ => ?_⟩
          · unfold evalAnd at q
            refine (Pl.start w eo).bindB q fun x st1 G1 H1 v p1 a1 r1 q => ?_
            rw [wpM_bind] at q
            replace q := wpM_ofO q
            obtain ⟨b, e1, q⟩ := q
            cases x <;> try contradiction
            cases e1
            rw [r1.bl]
            refine p1.val ?_ (.bl b)
            cases b with
            | true => simp only [if_true] at q; unfold evalAnd at q; exact q
            | false => simp only [Bool.false_eq_true, if_false] at q; exact q
          · unfold fstM evalAnd at q
            rw [wpM_bind] at q
            refine (Pl.start w eo).bindT q fun b st1 G1 H1 p1 a1 q => ?_
            cases b with
            | true =>
              simp only [if_true] at q
              unfold evalAnd at q
              obtain ⟨b, e1, q⟩ := q
              cases e1
              exact q G1 H1 p1.a
            | false =>
              simp only [Bool.false_eq_true, if_false] at q
              obtain ⟨b, e1, q⟩ := q
              cases e1
              exact q G1 H1 p1.a
      | cons e2 es =>
        obtain ⟨R1, R2⟩ := R.and (fun z => nomatch z) pos
        refine ⟨PE_imp (pe_and (ha.lent C h2) R1) fun σ H Q ⟨G, env, st, w, eo, q⟩ => ?_, PW_imp (pw_and (ha.pt C h2) R2) fun σ H Q ⟨G, env, st, w, eo, q⟩ => ?_⟩
        · unfold evalAnd at q
          refine (Pl.start w eo).bindB q fun x st1 G1 H1 v p1 a1 r1 q => ?_
          rw [wpM_bind] at q
          obtain ⟨b, e1, q⟩ := wpM_ofO q
          cases x <;> try contradiction
          cases e1
          refine ⟨b, r1.bl, ?_⟩
          cases b with
          | true =>
            simp only [if_true] at q ⊢
            exact ⟨G1, env, st1, p1.a.wr, p1.ev, wpM_mono q (fun _ _ q => p1.okE q) fun kk st2 q => EXC.mono p1.w p1.a q⟩
          | false =>
            simp only [Bool.false_eq_true, if_false] at q ⊢
            exact p1.val q (.bl false)
        · unfold fstM evalAnd at q
          rw [wpM_bind] at q
          refine (Pl.start w eo).bindT q fun b st1 G1 H1 p1 a1 q => ?_
          cases b with
          | true =>
            simp only [if_true] at q
            rw [if_pos rfl]
            refine ⟨G1, env, st1, p1.a.wr, p1.ev, ?_⟩
            unfold fstM
            rw [wpM_bind]
            exact wpM_mono q (fun x st' ⟨b, e2, k⟩ => ⟨b, e2, fun G' H' aa => k G' H' (p1.a.trans p1.w aa)⟩) fun kk st2 q => EXC.mono p1.w p1.a q
          | false =>
            simp only [Bool.false_eq_true, if_false] at q
            rw [if_neg Bool.false_ne_true]
            obtain ⟨b, e1, q⟩ := q
            cases e1
            exact q G1 H1 p1.a
    · cases es with
      | nil =>
        cases ms with
        | cons _ _ => unfold chkEs at h3; cases h3
        | nil =>
          refine ⟨PE_imp (pe_one (ha.lent C h2)) fun σ H Q ⟨G, env, st, w, eo, q⟩ => ?_, PW_imp (pw_or1 (ha.pt C h2)) fun σ H Q ⟨G, env, st, w, eo, q⟩ => ?_⟩
          · unfold evalOr at q
            refine (Pl.start w eo).bindB q fun x st1 G1 H1 v p1 a1 r1 q => ?_
            rw [wpM_bind] at q
            replace q := wpM_ofO q
            obtain ⟨b, e1, q⟩ := q
            cases x <;> try contradiction
            cases e1
            rw [r1.bl]
            refine p1.val ?_ (.bl b)
            cases b with
            | true => simp only [if_true] at q; exact q
            | false => simp only [Bool.false_eq_true, if_false] at q; unfold evalOr at q; exact q
          · unfold fstM evalOr at q
            rw [wpM_bind] at q
            refine (Pl.start w eo).bindT q fun b st1 G1 H1 p1 a1 q => ?_
            cases b with
            | true =>
              simp only [if_true] at q
              obtain ⟨b, e1, q⟩ := q
              cases e1
              exact q G1 H1 p1.a
            | false =>
              simp only [Bool.false_eq_true, if_false] at q
              unfold evalOr at q
              obtain ⟨b, e1, q⟩ := q
              cases e1
              exact q G1 H1 p1.a
      | cons e2 es =>
        obtain ⟨R1, R2⟩ := R.or (fun z => nomatch z) pos
        refine ⟨PE_imp (pe_or (ha.lent C h2) R1) fun σ H Q ⟨G, env, st, w, eo, q⟩ => ?_, PW_imp (pw_or (ha.pt C h2) R2) fun σ H Q ⟨G, env, st, w, eo, q⟩ => ?_⟩
        · unfold evalOr at q
          refine (Pl.start w eo).bindB q fun x st1 G1 H1 v p1 a1 r1 q => ?_
          rw [wpM_bind] at q
          obtain ⟨b, e1, q⟩ := wpM_ofO q
          cases x <;> try contradiction
          cases e1
          refine ⟨b, r1.bl, ?_⟩
          cases b with
          | false =>
            simp only [Bool.false_eq_true, if_false] at q ⊢
            exact ⟨G1, env, st1, p1.a.wr, p1.ev, wpM_mono q (fun _ _ q => p1.okE q) fun kk st2 q => EXC.mono p1.w p1.a q⟩
          | true =>
            simp only [if_true] at q ⊢
            exact p1.val q (.bl true)
        · unfold fstM evalOr at q
          rw [wpM_bind] at q
          refine (Pl.start w eo).bindT q fun b st1 G1 H1 p1 a1 q => ?_
          cases b with
          | false =>
            simp only [Bool.false_eq_true, if_false] at q
            rw [if_neg Bool.false_ne_true]
            refine ⟨G1, env, st1, p1.a.wr, p1.ev, ?_⟩
            unfold fstM
            rw [wpM_bind]
            exact wpM_mono q (fun x st' ⟨b, e2, k⟩ => ⟨b, e2, fun G' H' aa => k G' H' (p1.a.trans p1.w aa)⟩) fun kk st2 q => EXC.mono p1.w p1.a q
          | true =>
            simp only [if_true] at q
            rw [if_pos rfl]
            obtain ⟨b, e1, q⟩ := q
            cases e1
            exact q G1 H1 p1.a
    · cases es with
      | cons _ _ => simp at hl
      | nil =>
        cases ms with
        | cons _ _ => unfold chkEs at h3; cases h3
        | nil =>
          refine ⟨fun pins s σ H Q I ⟨G, env, st, w, eo, q⟩ => (pts_one (ha.pt C h2)).run pins s σ H Q I ?_⟩
          unfold evalCs at q
          refine (Pl.start w eo).bindT q fun b st1 G1 H1 p1 a1 q => ?_
          cases b with
          | true =>
            simp only [if_true] at q
            unfold evalCs at q
            exact q G1 H1 p1.a
          | false =>
            simp only [Bool.false_eq_true, if_false] at q
            exact q G1 H1 p1.a
def Exs.len : Exs → Nat
  | .nil => 0
  | .cons _ es => es.len + 1
theorem evals_len : ∀ {ms : Exs} {env : Envi} {st : S} {ok : List PV → S → Prop} {ex : Nat → S → Prop}, wpM (evals Γ ms env) st ok ex → wpM (evals Γ ms env) st (fun xs st' => xs.length = ms.len ∧ ok xs st') ex
  | .nil, env, st, ok, ex, h => by
    unfold evals at h ⊢
    exact ⟨rfl, h⟩
  | .cons m ms, env, st, ok, ex, h => by
    unfold evals at h ⊢
    rw [wpM_bind] at h ⊢
    refine wpM_mono h (fun r st1 h => ?_) fun _ _ z => z
    rw [wpM_bind] at h ⊢
    exact wpM_mono (evals_len h) (fun xs st2 ⟨e, h⟩ => ⟨by show xs.length + 1 = ms.len + 1; rw [e], h⟩) fun _ _ z => z
theorem chkEs_len {T : Tb} {sc : Scope} : ∀ {ms : Exs} {es : List Expr}, chkEs T sc ms es = true → ms.len = es.length
  | .nil, [], _ => rfl
  | .cons m ms, e :: es, h => by
    unfold chkEs at h
    rw [Bool.and_eq_true, Bool.and_eq_true] at h
    show ms.len + 1 = es.length + 1
    rw [chkEs_len h.2]
  | .nil, _ :: _, h => by unfold chkEs at h; cases h
  | .cons _ _, [], h => by unfold chkEs at h; cases h
theorem lim_small {n : Nat} (h : n ≤ 100000) : n ≤ sizeLine := Nat.le_trans h (by rw [sizeLine_eq]; decide)
theorem sE_tup {ms : Exs} (hs : SEs ec Γ T ms) : SE ec Γ T (.tup ms) := .plain fun e X W sc csc C hc => by
  cases e <;> try exact nomatch (show false = true from hc)
  rename_i es k pos
  have hc' : (decide (es.length ≤ 100000) && chkEs T sc ms es) = true := hc
  rw [Bool.and_eq_true] at hc'
  refine ⟨rfl, PE_imp (pe_tup (hs es X W sc csc C hc'.2).z) fun σ H Q ⟨G, env, st, w, eo, q⟩ => ?_⟩
  unfold evE at q
  rw [wpM_bind] at q
  refine ⟨G, env, st, w, eo, wpM_mono (evals_len q) (fun xs st1 ⟨el, q⟩ G1 H1 vs a rs => ⟨lim_small (by rw [rs.length, el, chkEs_len hc'.2]; exact of_decide_eq_true hc'.1), fun p hp => ?_⟩) fun _ _ z => z⟩
  exact ((⟨w, eo, a⟩ : Pl X.kx ec W σ env G H st G1 H1 st1).post q).tup a.wr rs hp
theorem sE_lst {ms : Exs} (hs : SEs ec Γ T ms) : SE ec Γ T (.lst ms) := .plain fun e X W sc csc C hc => by
  cases e <;> try exact nomatch (show false = true from hc)
  rename_i es pos
  have hc' : (decide (es.length ≤ 100000) && chkEs T sc ms es) = true := hc
  rw [Bool.and_eq_true] at hc'
  refine ⟨rfl, PE_imp (pe_lst (hs es X W sc csc C hc'.2).z) fun σ H Q ⟨G, env, st, w, eo, q⟩ => ?_⟩
  unfold evE at q
  rw [wpM_bind] at q
  refine ⟨G, env, st, w, eo, wpM_mono (evals_len q) (fun xs st1 ⟨el, q⟩ G1 H1 vs a rs => ⟨lim_small (by rw [rs.length, el, chkEs_len hc'.2]; exact of_decide_eq_true hc'.1), fun p hp => ?_⟩) fun _ _ z => z⟩
  exact ((⟨w, eo, a⟩ : Pl X.kx ec W σ env G H st G1 H1 st1).post q).lst a.wr rs hp
theorem sE_and {ms : Exs} (hs : SEs ec Γ T ms) : SE ec Γ T (.and ms) := fun e X W sc csc C hc => by
  cases e <;> try exact nomatch (show false = true from hc)
  rename_i op es pos
  cases op <;> try exact nomatch (show false = true from hc)
  have hc' : (!es.isEmpty && chkEs T sc ms es) = true := hc
  rw [Bool.and_eq_true] at hc'
  have ne : es ≠ [] := fun z => by rw [z] at hc'; exact nomatch hc'.1
  obtain ⟨h1, h2⟩ := (hs es X W sc csc C hc'.2).and ne pos
  exact ⟨PE_imp h1 fun σ H Q ⟨G, env, st, w, eo, q⟩ => ⟨G, env, st, w, eo, q⟩, PT_imp h2.pt fun σ H Q ⟨G, env, st, w, eo, q⟩ => ⟨G, env, st, w, eo, q⟩⟩
theorem sE_or {ms : Exs} (hs : SEs ec Γ T ms) : SE ec Γ T (.or ms) := fun e X W sc csc C hc => by
  cases e <;> try exact nomatch (show false = true from hc)
  rename_i op es pos
  cases op <;> try exact nomatch (show false = true from hc)
  have hc' : (!es.isEmpty && chkEs T sc ms es) = true := hc
  rw [Bool.and_eq_true] at hc'
  have ne : es ≠ [] := fun z => by rw [z] at hc'; exact nomatch hc'.1
  obtain ⟨h1, h2⟩ := (hs es X W sc csc C hc'.2).or ne pos
  exact ⟨PE_imp h1 fun σ H Q ⟨G, env, st, w, eo, q⟩ => ⟨G, env, st, w, eo, q⟩, PT_imp h2.pt fun σ H Q ⟨G, env, st, w, eo, q⟩ => ⟨G, env, st, w, eo, q⟩⟩
/-- where no own list is lent, the arguments are whole -/
theorem evals_nobor : ∀ {ms : Exs} {env : Envi}, bor ms env = false → evalsB Γ ms env = evals Γ ms env
  | .nil, env, _ => by unfold evals evalsB; rfl
  | .cons m ms, env, h => by
    unfold bor at h
    rw [Bool.or_eq_false_iff] at h
    unfold evals evalsB
    rw [evals_nobor h.2]
    have : evE Γ true m env = evE Γ false m env := by
      by_cases hv : ∃ i, m = .var i
      · obtain ⟨i, rfl⟩ := hv
        have h1 : isOwned env i = false := h.1
        unfold evE
        have : getB env i = getZ env i := by
          unfold isOwned at h1
          unfold getB getZ
          split at h1
          · rename_i x b he
            subst h1
            rw [he]
          · rename_i hn
            cases e : env[i]? with
            | none => rfl
            | some o =>
              cases o with
              | none => rfl
              | some r => exact absurd e (hn r.1 r.2)
        simp only [this, if_true, Bool.false_eq_true, if_false]
      · exact evE_else fun i e => hv ⟨i, e⟩
    unfold fstM
    rw [this]
    funext s
    unfold M.bind
    cases evE Γ false m env s <;> rfl
theorem wpM_lent {m : M (PV × Bool)} {s : S} {ok : PV × Bool → S → Prop} {ex : Nat → S → Prop} (h : wpM (lentM m) s ok ex) : wpM m s (fun r s' => immR r = true ∧ sameV s s' = true ∧ ok r { s' with ob := s.ob }) (fun k s' => sameV s s' = true ∧ ex k { s' with ob := s.ob }) := by
  unfold wpM lentM at h
  unfold wpM
  cases q : m s with
  | stuck => rw [q] at h; exact h.elim
  | ok r s' =>
    rw [q] at h
    simp only at h
    by_cases hc : (immR r && sameV s s') = true
    · rw [if_pos hc] at h
      rw [Bool.and_eq_true] at hc
      exact ⟨hc.1, hc.2, h⟩
    · rw [if_neg hc] at h
      exact h.elim
  | exc k s' =>
    rw [q] at h
    simp only at h
    by_cases hc : sameV s s' = true
    · rw [if_pos hc] at h
      exact ⟨hc, h⟩
    · rw [if_neg hc] at h
      exact h.elim
theorem sE_call {f : Nat} {ms : Exs} (hs : SEs ec Γ T ms) : SE ec Γ T (.call f ms) := .plain fun e X W sc csc C hc => by
  cases e <;> try exact nomatch (show false = true from hc)
  rename_i fe es ks pos
  cases fe <;> try exact nomatch (show false = true from hc)
  rename_i x p
  cases ks <;> try exact nomatch (show false = true from hc)
  have hc' : (decide (T.FT f = some x) && glB sc x && chkEs T sc ms es && !es.isEmpty) = true := hc
  simp only [Bool.and_eq_true] at hc'
  obtain ⟨⟨⟨h1, h2⟩, h3⟩, h4⟩ := hc'
  have R := hs es X W sc csc C h3
  have ns := chkEs_noStars h3
  cases es with
  | nil => exact nomatch h4
  | cons e es =>
    unfold noStars at ns
    rw [Bool.and_eq_true] at ns
    refine ⟨rfl, ?_⟩
    cases hf : Γ.fn f with
    | none =>
      refine ⟨fun pins s σ H Q I q => ?_⟩
      obtain ⟨G, env, st, w, eo, q⟩ := q
      unfold evE at q
      rw [hf] at q
      exact q.elim
    | some g =>
      obtain ⟨x', a, fd, ps, k, e1, e2, e3, e4, e5, e6, F⟩ := C.fn f g hf
      rw [of_decide_eq_true h1] at e1
      cases e1
      have gl : Gl X x := by
        show X.env.scope.names.lookup x = _
        rw [C.hsc]
        exact glB_ok h2
      refine PE_imp (pe_callS F e6 gl e3 e4 e5 (passAt C.tk) (PA_or R.z R.b) e2 (star_cons ns.1) (noStars_any ns.2)) fun σ H Q ⟨G, env, st, w, eo, q⟩ => ?_
      unfold evE at q
      rw [hf, wpM_bind] at q
      obtain ⟨g', e7, q⟩ := wpM_ofO q
      cases e7
      by_cases hb : bor ms env = true
      · refine .inr ((Pl.start w eo).bindAb q fun xs st1 G1 H1 vs p1 a1 rs q => ?_)
        rw [if_pos hb] at q
        replace q := wpM_lent q
        refine ⟨G1.lend H1, xs, st1, p1.a.wr.lend, p1.ev.kk, rs.lend p1.a.wr, wpM_mono q (fun r st2 q G' H' v b ro => ?_) fun kk st2 q G' H' cls b hk => ?_⟩
        · obtain ⟨hi, sv, q⟩ := q
          exact p1.okE q _ _ v (b.unlend p1.a.wr sv) (ro.unlend p1.a.wr b hi)
        · obtain ⟨sv, q⟩ := q
          exact EXC.mono p1.w p1.a q _ _ cls (b.unlend p1.a.wr sv) hk
      · rw [evals_nobor (by simpa using hb)] at q
        refine .inl ((Pl.start w eo).bindAz q fun xs st1 G1 H1 vs p1 a1 rs q => ?_)
        rw [if_neg hb] at q
        refine ⟨G1, xs, st1, p1.a.wr, p1.ev.kk, rs, wpM_mono q (fun r st2 q => p1.okE q) fun kk st2 q G' H' cls b hk => ?_⟩
        exact EXC.mono p1.w p1.a q _ _ cls b hk
end
end GB

/-! GSndI: built-ins, isinstance; what is walked. -/
namespace GB
open PySem PySem.Spec PyProof.Rows L2
theorem CallR_or {X : Cx} {f : Value} {r r' : List V → Hp → VK → Prop} (h : CallR X f r) (h' : CallR X f r') : CallR X f (fun vs H Q => r vs H Q ∨ r' vs H Q) :=
  fun pins s σ H vs us Q I rs q => q.elim (h pins s σ H vs us Q I rs) (h' pins s σ H vs us Q I rs)
theorem call_lenC {X : Cx} : CallR X (.builtin "len") (fun vs H Q => ∃ G st n p, Wr G H st ∧ vs = [.ref p] ∧ G.ca = some p ∧ st.cnt = some n ∧ Q (.int n) H) := by
  intro pins s σ H vs us Q I rs ⟨G, st, n, p, w, ev, hc, hn, q⟩
  subst ev
  obtain ⟨m, e1, e2⟩ := w.cnt_lst hc
  rw [hn] at e1
  cases e1
  exact call_len_seq pins s σ H _ us Q I rs ⟨p, _, rfl, .inl (.inl (.inl e2)), by rw [List.length_replicate]; exact q⟩
theorem wpM_blt {f : Blt} {xs : List PV} {st : S} {ok : PV × Bool → S → Prop} {ex : Nat → S → Prop} (h : wpM (blt f xs) st ok ex) : (f = .len ∧ xs = [.cnt] ∧ ∃ n, st.cnt = some n ∧ ok (.int n, false) st) ∨ ∃ z, bltop f xs = some z ∧ ok z st := by
  by_cases c : f = .len ∧ xs = [.cnt]
  · obtain ⟨rfl, rfl⟩ := c
    left
    unfold wpM blt at h
    cases e : st.cnt with
    | none => simp only [e] at h
    | some n =>
      simp only [e] at h
      exact ⟨rfl, rfl, n, rfl, h⟩
  · right
    have : blt f xs = ofO (bltop f xs) := by
      funext s
      unfold blt
      split
      · exact absurd ⟨rfl, rfl⟩ c
      · rfl
    rw [this] at h
    exact wpM_ofO h
section
variable {ec : Nat → Option Value} {Γ : Gam} {T : Tb}
theorem sE_blt {f : Blt} {ms : Exs} (hs : SEs ec Γ T ms) : SE ec Γ T (.blt f ms) := .plain fun e X W sc csc C hc => by
  cases e <;> try exact nomatch (show false = true from hc)
  rename_i fe es ks pos
  cases fe <;> try exact nomatch (show false = true from hc)
  rename_i x p
  cases ks <;> try exact nomatch (show false = true from hc)
  have hc' : (decide (bltName f = x) && glB sc x && chkEs T sc ms es && !es.isEmpty) = true := hc
  simp only [Bool.and_eq_true] at hc'
  obtain ⟨⟨⟨h1, h2⟩, h3⟩, h4⟩ := hc'
  have R := hs es X W sc csc C h3
  have ns := chkEs_noStars h3
  have h1 := of_decide_eq_true h1
  subst h1
  cases es with
  | nil => exact nomatch h4
  | cons e es =>
    unfold noStars at ns
    rw [Bool.and_eq_true] at ns
    refine ⟨rfl, ?_⟩
    have gl : Gl X (bltName f) := by
      show X.env.scope.names.lookup (bltName f) = _
      rw [C.hsc]
      exact glB_ok h2
    have hm := C.bn _ (bltName_mem f)
    have kk : PE X (.Call (.Name (bltName f) p) (e :: es) [] pos) (tCB (fun vs H Q => rBlt X.kx f vs H Q ∨ (f = .len ∧ ∃ G st n p, Wr G H st ∧ vs = [.ref p] ∧ G.ca = some p ∧ st.cnt = some n ∧ Q (.int n) H)) (TAb X.kx ec Γ W ms)) := by
      have cr : CallR X (blTy f) (fun vs H Q => rBlt X.kx f vs H Q ∨ (f = .len ∧ ∃ G st n p, Wr G H st ∧ vs = [.ref p] ∧ G.ca = some p ∧ st.cnt = some n ∧ Q (.int n) H)) := by
        refine CallR_or (call_blt C.calm C.hu f) ?_
        intro pins s σ H vs us Q I rs ⟨ef, q⟩
        subst ef
        exact call_lenC pins s σ H vs us Q I rs q
      have bo := boot_blt f
      have bn := blt_name f
      cases f <;> first | exact pe_callB cr gl hm bo R.b bn.1 bn.2 (star_cons ns.1) (noStars_any ns.2) | exact pe_callTy cr gl hm bo R.b bn.1 bn.2 (star_cons ns.1) (noStars_any ns.2)
    refine PE_imp kk fun σ H Q ⟨G, env, st, w, eo, q⟩ => ?_
    unfold evE at q
    refine (Pl.start w eo).bindAb q fun xs st1 G1 H1 vs p1 a1 rs q => ?_
    rcases wpM_blt q with ⟨e1, e2, n, e3, q'⟩ | ⟨z, e1, q⟩
    · subst e2
      obtain ⟨v, rfl, wx⟩ := wreps1 rs
      cases wx with
      | rep r =>
        cases r with
        | cnt hca => exact .inr ⟨e1, G1, st1, n, _, p1.a.wr, rfl, hca, e3, p1.val q' (.int _)⟩
    · exact .inl ⟨G1, st1, xs, z.1, z.2, p1.a.wr, rs, e1, p1.post q⟩
theorem sE_isi {a : Ex} {t : Ty} (ha : SE ec Γ T a) : SE ec Γ T (.isi a t) := .plain fun e X W sc csc C hc => by
  cases e <;> try exact nomatch (show false = true from hc)
  rename_i fe es ks pos
  cases fe <;> try exact nomatch (show false = true from hc)
  rename_i f p
  rcases es with _ | ⟨v, _ | ⟨ty, tl⟩⟩ <;> try exact nomatch (show false = true from hc)
  cases ty <;> try exact nomatch (show false = true from hc)
  rename_i x px
  cases tl <;> cases ks <;> try exact nomatch (show false = true from hc)
  have hc' : (decide (f = "isinstance") && glB sc f && decide (tyName t = some x) && glB sc x && notStar v && chkE T sc a v) = true := hc
  simp only [Bool.and_eq_true] at hc'
  obtain ⟨⟨⟨⟨⟨h1, h2⟩, h3⟩, h4⟩, h5⟩, h6⟩ := hc'
  have h1 := of_decide_eq_true h1
  subst h1
  have h3 := of_decide_eq_true h3
  obtain ⟨b1, b2, b3, b4⟩ := ty_boot h3
  have gl : ∀ {y : Str}, glB sc y = true → Gl X y := fun {y} hy => by
    show X.env.scope.names.lookup y = _
    rw [C.hsc]
    exact glB_ok hy
  have ns : notStar (Expr.Name x px) = true := rfl
  refine ⟨rfl, PE_imp (pe_callB call_isi (gl h2) (C.bn _ (by decide +kernel)) (by decide +kernel) (pa_cons (ha.lent C h6) (pa_cons (pe_bltn (v := .ty (tyStr t)) (gl h4) (C.bn _ b1) b2 rfl b3 b4) pa_nil (star_cons ns)) (star_cons h5)) (by decide +kernel) (by decide +kernel) (star_cons h5) (noStars_any (by rfl))) fun σ H Q ⟨G, env, st, w, eo, q⟩ => ?_⟩
  unfold evE at q
  refine (Pl.start w eo).bindB q fun y st1 G1 H1 v p1 a1 r1 q => ?_
  obtain ⟨z, e1, q⟩ := wpM_ofO q
  split at e1
  · rename_i c hcm
    cases e1
    obtain ⟨n, e2, e3⟩ := tyOf_kit (K := X.kx) hcm h3
    exact ⟨v, .ty (tyStr t), .type n, .type (tyStr t), c, rfl, .ty _, wrep_ty r1 p1.a.wr e2, e3, p1.val q (.bl _)⟩
  · cases e1
end

/-! ### what is walked -/
/-- later, where own lists may have been written -/
structure Nw (G : Gh) (H : Hp) (G' : Gh) (H' : Hp) (st' : S) : Prop extends Gr G G' where
  kl : KeepL G H H'
  w : Wr G' H' st'
theorem Gr.trans {G G1 G2 : Gh} (a : Gr G G1) (b : Gr G1 G2) : Gr G G2 := ⟨fun p h => b.l p (a.l p h), fun p h => b.c p (a.c p h), b.k.trans a.k, a.o.trans b.o⟩
section
variable {K : KX} {G G' G2 : Gh} {H H' H2 : Hp} {st st' : S}
theorem Rep.nw (n : Nw G H G' H' st') {v : V} {x : PV} (h : Rep K G H v x) : Rep K G' H' v x := h.gr n.toGr n.kl
theorem Reps.nw (n : Nw G H G' H' st') {vs : List V} {xs : List PV} (h : Reps K G H vs xs) : Reps K G' H' vs xs := h.gr n.toGr n.kl
theorem Nw.refl (w : Wr G H st) : Nw G H G H st := ⟨Gr.refl, fun _ _ _ h => h, w⟩
theorem Nw.trans (a : Nw G H G' H' st) (b : Nw G' H' G2 H2 st') : Nw G H G2 H2 st' := ⟨a.toGr.trans b.toGr, fun p o h e => b.kl p o (h.imp (a.l p) id) (a.kl p o h e), b.w⟩
theorem After.nw (w : Wr G H st) (a : After G H st' G' H') : Nw G H G' H' st' := ⟨a.le.gr, a.keep.l w.toWb, a.wr⟩
end
/-- two ways of walking: lent (nobody writes meanwhile), or frozen -/
def mRel (l : Bool) (G : Gh) (H : Hp) : Gh → Hp → S → Prop := if l = true then fun G' H' st' => After G H st' G' H' else Nw G H
def mVal (l : Bool) (K : KX) (G : Gh) (H : Hp) (v : V) (x : PV) : Prop := if l = true then WRep K G H v x else Rep K G H v x
structure Wk (K : KX) (R : Gh → Hp → S → Prop) (J : It) (xs : List PV) : Prop where
  wr : ∀ G H st, R G H st → Wr G H st
  go : ∀ i G H st, R G H st → i < xs.length → J.go i H
  stop : ∀ G H st, R G H st → J.stop xs.length H
  yld : ∀ i G H st v H2, R G H st → i < xs.length → J.yld i H v H2 → ∃ x, xs[i]? = some x ∧ After G H st G H2 ∧ Rep K G H2 v x
structure Sq (K : KX) (R : Gh → Hp → S → Prop) (k : Kd) (a : Addr) (vs : List V) (xs : List PV) : Prop where
  wr : ∀ G H st, R G H st → Wr G H st
  sq : ∀ G H st, R G H st → SqK K.K k H a vs
  rs : ∀ G H st, R G H st → Reps K G H vs xs
  len : vs.length = xs.length
section
variable {K : KX} {R : Gh → Hp → S → Prop} {G G' : Gh} {H H' : Hp} {st st' : S} {a b c : Addr} {vs vs2 vs3 : List V} {xs ys zs : List PV}
theorem mVal.mono {l : Bool} {v : V} {x : PV} (w : Wr G H st) (b : After G H st' G' H') (h : mVal l K G H v x) : mVal l K G' H' v x := by
  unfold mVal at h ⊢
  cases l with
  | true => rw [if_pos rfl] at h ⊢; exact h.mono w b.le b.keep
  | false => rw [if_neg Bool.false_ne_true] at h ⊢; exact h.mono w b.le b.keep
theorem mSqT {l : Bool} {v : V} (w : Wr G H st) (h : mVal l K G H v (.tup xs)) : ∃ a vs, v = .ref a ∧ SqT K H a vs ∧ Sq K (mRel l G H) .t a vs xs := by
  unfold mVal at h
  cases l with
  | true =>
    rw [if_pos rfl] at h
    obtain ⟨p, vs, rfl, h1, r⟩ := h.tup
    exact ⟨p, vs, rfl, h1, ⟨fun _ _ _ z => (show After _ _ _ _ _ from z).wr, fun _ _ _ z => sqT_keep w (show After _ _ _ _ _ from z).keep h1, fun _ _ _ z => r.mono w (show After _ _ _ _ _ from z).le (show After _ _ _ _ _ from z).keep, r.length⟩⟩
  | false =>
    rw [if_neg Bool.false_ne_true] at h
    cases h with
    | tup h1 r =>
      exact ⟨_, _, rfl, h1, ⟨fun _ _ _ z => (show Nw _ _ _ _ _ from z).w, fun _ _ _ z => sqT_keepL (show Nw _ _ _ _ _ from z).kl h1, fun _ _ _ z => r.nw (show Nw _ _ _ _ _ from z), r.length⟩⟩
theorem mSqL {l : Bool} {v : V} (w : Wr G H st) (h : mVal l K G H v (.lst xs)) : ∃ a vs, v = .ref a ∧ SqL K H a vs ∧ Sq K (mRel l G H) .l a vs xs := by
  unfold mVal at h
  cases l with
  | true =>
    rw [if_pos rfl] at h
    obtain ⟨p, vs, rfl, h1, m, r⟩ := h.lst' w
    exact ⟨p, vs, rfl, .inl (.inl h1), ⟨fun _ _ _ z => (show After _ _ _ _ _ from z).wr, fun _ _ _ z => .inl (.inl ((show After _ _ _ _ _ from z).keep _ _ m h1)), fun _ _ _ z => r.mono w (show After _ _ _ _ _ from z).le (show After _ _ _ _ _ from z).keep, r.length⟩⟩
  | false =>
    rw [if_neg Bool.false_ne_true] at h
    cases h with
    | lst h1 h2 r =>
      exact ⟨_, _, rfl, .inl (.inl h2), ⟨fun _ _ _ z => (show Nw _ _ _ _ _ from z).w, fun _ _ _ z => .inl (.inl ((show Nw _ _ _ _ _ from z).kl _ _ (.inl h1) h2)), fun _ _ _ z => r.nw (show Nw _ _ _ _ _ from z), r.length⟩⟩
theorem mSq {l : Bool} {v : V} {x : PV} (w : Wr G H st) (h : mVal l K G H v x) (e : seqOf x = some xs) : ∃ k a vs, v = .ref a ∧ SqK K.K k H a vs ∧ Sq K (mRel l G H) k a vs xs := by
  cases x <;> try contradiction
  · cases e
    obtain ⟨a, vs, e, h1, s⟩ := mSqT w h
    exact ⟨.t, a, vs, e, h1, s⟩
  · cases e
    obtain ⟨a, vs, e, h1, s⟩ := mSqL w h
    exact ⟨.l, a, vs, e, h1, s⟩
theorem get_same {α : Type} {xs : List α} {i : Nat} (h : i < xs.length) : xs[i]? = some xs[i] := by simp [h]
theorem wk_l (s : Sq K R .l a vs xs) : Wk K R (Itl K.K a) xs := by
  refine ⟨s.wr, fun i G H st r hi => ?_, fun G H st r => ?_, fun i G H st v H2 r hi y => ?_⟩
  · have hi' : i < vs.length := by rw [s.len]; exact hi
    exact ⟨vs, vs[i], s.sq _ _ _ r, get_same hi'⟩
  · exact ⟨vs, s.sq _ _ _ r, by rw [s.len]; exact Nat.le_refl _⟩
  · obtain ⟨e, y⟩ := y
    subst e
    obtain ⟨u, h1, h2⟩ := (s.rs _ _ _ r).get (get_same hi)
    have := y vs (s.sq _ _ _ r)
    rw [h1] at this
    cases this
    exact ⟨_, get_same hi, After.refl (s.wr _ _ _ r), h2⟩
theorem wk_t (s : Sq K R .t a vs xs) : Wk K R (Itt K.K a) xs := by
  refine ⟨s.wr, fun i G H st r hi => ?_, fun G H st r => ?_, fun i G H st v H2 r hi y => ?_⟩
  · have hi' : i < vs.length := by rw [s.len]; exact hi
    exact ⟨vs, vs[i], s.sq _ _ _ r, get_same hi'⟩
  · exact ⟨vs, s.sq _ _ _ r, by rw [s.len]; exact Nat.le_refl _⟩
  · obtain ⟨e, y⟩ := y
    subst e
    obtain ⟨u, h1, h2⟩ := (s.rs _ _ _ r).get (get_same hi)
    have := y vs (s.sq _ _ _ r)
    rw [h1] at this
    cases this
    exact ⟨_, get_same hi, After.refl (s.wr _ _ _ r), h2⟩
theorem wk_r (w : ∀ G H st, R G H st → Wr G H st) (lo hi : Int) : Wk K R (Itr lo (hi - lo).toNat) (rangeW lo hi) := by
  have len : (rangeW lo hi).length = (hi - lo).toNat := by unfold rangeW; rw [List.length_map, List.length_range]
  refine ⟨w, fun i G H st r h => by rw [len] at h; exact h, fun G H st r => by rw [len]; exact Nat.le_refl _, fun i G H st v H2 r h y => ?_⟩
  obtain ⟨e, y⟩ := y
  subst e y
  rw [len] at h
  exact ⟨.int (lo + i), by unfold rangeW; rw [List.getElem?_map, List.getElem?_range h]; rfl, After.refl (w _ _ _ r), .int _⟩
theorem After.tup {p : Addr} {us : List V} (w : Wr G H st) (h : H p = none) : After G H st G (upd H p (.tup us)) := ⟨Le.refl, keep_upd h, w.upd_new h st⟩
theorem rep_tup {p : Addr} {us : List V} {xs : List PV} (w : Wr G H st) (h : H p = none) (r : Reps K G H us xs) : Rep K G (upd H p (.tup us)) (.ref p) (.tup xs) := .tup (SqT.of upd_same) (r.mono w Le.refl (keep_upd h))
theorem enumW_get : ∀ (n : Nat) (xs : List PV) (i : Nat) (x : PV), xs[i]? = some x → (enumW n xs)[i]? = some (.tup [.int (n + i : Nat), x])
  | n, y :: ys, 0, x, h => by cases h; rfl
  | n, y :: ys, i + 1, x, h => by
    show (enumW (n + 1) ys)[i]? = _
    rw [enumW_get (n + 1) ys i x h, Nat.add_assoc, Nat.add_comm 1 i]
theorem enumW_len : ∀ (n : Nat) (xs : List PV), (enumW n xs).length = xs.length
  | _, [] => rfl
  | n, x :: xs => congrArg (· + 1) (enumW_len (n + 1) xs)
theorem wk_e {k : Kd} (s : Sq K R k a vs xs) : Wk K R (ItE K.K k a) (enumW 0 xs) := by
  refine ⟨s.wr, fun i G H st r hi => ?_, fun G H st r => ?_, fun i G H st v H2 r hi y => ?_⟩
  · rw [enumW_len] at hi
    exact ⟨vs, s.sq _ _ _ r, by rw [s.len]; exact hi⟩
  · exact ⟨vs, s.sq _ _ _ r, by rw [s.len, enumW_len]⟩
  · rw [enumW_len] at hi
    obtain ⟨t, x, rfl, e2, rfl, y⟩ := y
    obtain ⟨u, h1, h2⟩ := (s.rs _ _ _ r).get (get_same hi)
    have := y vs (s.sq _ _ _ r)
    rw [h1] at this
    cases this
    refine ⟨_, enumW_get 0 xs i _ (get_same hi), After.tup (s.wr _ _ _ r) e2, ?_⟩
    rw [Nat.zero_add]
    exact rep_tup (s.wr _ _ _ r) e2 (.cons (.int _) (.cons h2 .nil))
theorem zipW2_get : ∀ (xs ys : List PV) (i : Nat) (x y : PV), xs[i]? = some x → ys[i]? = some y → (zipW2 xs ys)[i]? = some (.tup [x, y])
  | x :: xs, y :: ys, 0, _, _, h, h' => by cases h; cases h'; rfl
  | x :: xs, y :: ys, i + 1, _, _, h, h' => zipW2_get xs ys i _ _ h h'
theorem zipW2_len : ∀ (xs ys : List PV), (zipW2 xs ys).length = min xs.length ys.length
  | [], ys => by unfold zipW2; simp
  | x :: xs, [] => by unfold zipW2; simp
  | x :: xs, y :: ys => by unfold zipW2; rw [List.length_cons, zipW2_len xs ys, List.length_cons, List.length_cons]; omega
theorem wk_z2 {k k2 : Kd} (s : Sq K R k a vs xs) (s2 : Sq K R k2 b vs2 ys) : Wk K R (ItZ2 K.K k k2 a b) (zipW2 xs ys) := by
  refine ⟨s.wr, fun i G H st r hi => ?_, fun G H st r => ?_, fun i G H st v H2 r hi y => ?_⟩
  · rw [zipW2_len] at hi
    exact ⟨vs, vs2, s.sq _ _ _ r, s2.sq _ _ _ r, by rw [s.len]; omega, by rw [s2.len]; omega⟩
  · exact ⟨vs, vs2, s.sq _ _ _ r, s2.sq _ _ _ r, by rw [s.len, s2.len, zipW2_len]⟩
  · rw [zipW2_len] at hi
    have l1 : i < xs.length := by omega
    have l2 : i < ys.length := by omega
    obtain ⟨t, x1, x2, rfl, e2, rfl, y1, y2⟩ := y
    obtain ⟨u, h1, h2⟩ := (s.rs _ _ _ r).get (get_same l1)
    obtain ⟨u2, h3, h4⟩ := (s2.rs _ _ _ r).get (get_same l2)
    have := y1 vs (s.sq _ _ _ r)
    rw [h1] at this
    cases this
    have := y2 vs2 (s2.sq _ _ _ r)
    rw [h3] at this
    cases this
    exact ⟨_, zipW2_get xs ys i _ _ (get_same l1) (get_same l2), After.tup (s.wr _ _ _ r) e2, rep_tup (s.wr _ _ _ r) e2 (.cons h2 (.cons h4 .nil))⟩
theorem zipW3_get : ∀ (xs ys zs : List PV) (i : Nat) (x y z : PV), xs[i]? = some x → ys[i]? = some y → zs[i]? = some z → (zipW3 xs ys zs)[i]? = some (.tup [x, y, z])
  | x :: xs, y :: ys, z :: zs, 0, _, _, _, h, h', h'' => by cases h; cases h'; cases h''; rfl
  | x :: xs, y :: ys, z :: zs, i + 1, _, _, _, h, h', h'' => zipW3_get xs ys zs i _ _ _ h h' h''
theorem zipW3_len : ∀ (xs ys zs : List PV), (zipW3 xs ys zs).length = min (min xs.length ys.length) zs.length
  | [], ys, zs => by unfold zipW3; simp
  | x :: xs, [], zs => by unfold zipW3; simp
  | x :: xs, y :: ys, [] => by unfold zipW3; simp
  | x :: xs, y :: ys, z :: zs => by unfold zipW3; rw [List.length_cons, zipW3_len xs ys zs, List.length_cons, List.length_cons, List.length_cons]; omega
theorem wk_z3 {k k2 k3 : Kd} (s : Sq K R k a vs xs) (s2 : Sq K R k2 b vs2 ys) (s3 : Sq K R k3 c vs3 zs) : Wk K R (ItZ3 K.K k k2 k3 a b c) (zipW3 xs ys zs) := by
  refine ⟨s.wr, fun i G H st r hi => ?_, fun G H st r => ?_, fun i G H st v H2 r hi y => ?_⟩
  · rw [zipW3_len] at hi
    exact ⟨vs, vs2, vs3, s.sq _ _ _ r, s2.sq _ _ _ r, s3.sq _ _ _ r, by rw [s.len]; omega, by rw [s2.len]; omega, by rw [s3.len]; omega⟩
  · exact ⟨vs, vs2, vs3, s.sq _ _ _ r, s2.sq _ _ _ r, s3.sq _ _ _ r, by rw [s.len, s2.len, s3.len, zipW3_len]⟩
  · rw [zipW3_len] at hi
    have l1 : i < xs.length := by omega
    have l2 : i < ys.length := by omega
    have l3 : i < zs.length := by omega
    obtain ⟨t, x1, x2, x3, rfl, e2, rfl, y1, y2, y3⟩ := y
    obtain ⟨u, h1, h2⟩ := (s.rs _ _ _ r).get (get_same l1)
    obtain ⟨u2, h3, h4⟩ := (s2.rs _ _ _ r).get (get_same l2)
    obtain ⟨u3, h5, h6⟩ := (s3.rs _ _ _ r).get (get_same l3)
    have := y1 vs (s.sq _ _ _ r)
    rw [h1] at this
    cases this
    have := y2 vs2 (s2.sq _ _ _ r)
    rw [h3] at this
    cases this
    have := y3 vs3 (s3.sq _ _ _ r)
    rw [h5] at this
    cases this
    exact ⟨_, zipW3_get xs ys zs i _ _ _ (get_same l1) (get_same l2) (get_same l3), After.tup (s.wr _ _ _ r) e2, rep_tup (s.wr _ _ _ r) e2 (.cons h2 (.cons h4 (.cons h6 .nil)))⟩
end
/-- the terms walked -/
def srcArgs : Src → Exs
  | .val e => .cons e .nil
  | .enum e => .cons e .nil
  | .zip2 a b => .cons a (.cons b .nil)
  | .zip3 a b c => .cons a (.cons b (.cons c .nil))
  | _ => .nil
inductive mVals (l : Bool) (K : KX) (G : Gh) (H : Hp) : List V → List PV → Prop where
  | nil : mVals l K G H [] []
  | cons {v : V} {x : PV} {vs : List V} {xs : List PV} : mVal l K G H v x → mVals l K G H vs xs → mVals l K G H (v :: vs) (x :: xs)
theorem mVals_w {K : KX} {G : Gh} {H : Hp} : ∀ {vs : List V} {xs : List PV}, WReps K G H vs xs → mVals true K G H vs xs
  | _, _, .nil => .nil
  | _, _, .cons h r => .cons (by unfold mVal; exact h) (mVals_w r)
theorem mVals_r {K : KX} {G : Gh} {H : Hp} : ∀ {vs : List V} {xs : List PV}, Reps K G H vs xs → mVals false K G H vs xs
  | _, _, .nil => .nil
  | _, _, .cons h r => .cons (by unfold mVal; rw [if_neg Bool.false_ne_true]; exact h) (mVals_r r)
def TAm (l : Bool) (K : KX) (ec : Nat → Option Value) (Γ : Gam) (W : WX) (ms : Exs) : TA := fun σ H Q => ∃ G env st, Wr G H st ∧ EnvOk K G env σ H ∧ (l = false → bor ms env = false) ∧
  wpM (evalsB Γ ms env) st (fun xs st' => ∀ G' H' vs, After G H st' G' H' → mVals l K G' H' vs xs → Q vs H') (EXC ec W σ G H)
def TBm (l : Bool) (K : KX) (ec : Nat → Option Value) (Γ : Gam) (W : WX) (m : Ex) : TE := fun σ H Q => ∃ G env st, Wr G H st ∧ EnvOk K G env σ H ∧ (l = false → bor (.cons m .nil) env = false) ∧
  wpM (evalB Γ m env) st (fun x st' => ∀ G' H' v, After G H st' G' H' → mVal l K G' H' v x → Q v H') (EXC ec W σ G H)
def TIm (l : Bool) (K : KX) (ec : Nat → Option Value) (Γ : Gam) (W : WX) (it : Src) : TI := fun σ H R => ∃ G env st, Wr G H st ∧ EnvOk K G env σ H ∧ (l = false → bor (srcArgs it) env = false) ∧
  wpM (evalIt Γ it env) st (fun xs st' => ∀ G' H' J, After G H st' G' H' → Wk K (mRel l G' H') J xs → R J H') (EXC ec W σ G H)
section
variable {ec : Nat → Option Value} {Γ : Gam} {T : Tb}
theorem SEsR.m {ms : Exs} {es : List Expr} {X : Cx} {W : WX} (h : SEsR ec Γ T ms es X W) (l : Bool) : PA X es (TAm l X.kx ec Γ W ms) := by
  cases l with
  | true => exact PA_imp h.b fun σ H Q ⟨G, env, st, w, eo, _, q⟩ => ⟨G, env, st, w, eo, wpM_mono q (fun xs st' k G' H' vs a r => k G' H' vs a (mVals_w r)) fun _ _ z => z⟩
  | false =>
    refine PA_imp h.z fun σ H Q ⟨G, env, st, w, eo, nb, q⟩ => ⟨G, env, st, w, eo, ?_⟩
    rw [evals_nobor (nb rfl)] at q
    exact wpM_mono q (fun xs st' k G' H' vs a r => k G' H' vs a (mVals_r r)) fun _ _ z => z
theorem SE.m {m : Ex} (h : SE ec Γ T m) {e : Expr} {X : Cx} {W : WX} {sc csc : Scope} (C : Ctx ec T.FT T.GT T.MT T.CT Γ X W sc csc T.N) (hc : chkE T sc m e = true) (l : Bool) : PE X e (TBm l X.kx ec Γ W m) := by
  cases l with
  | true => exact PE_imp (h.lent C hc) fun σ H Q ⟨G, env, st, w, eo, _, q⟩ => ⟨G, env, st, w, eo, wpM_mono q (fun xs st' k G' H' vs a r => k G' H' vs a (by unfold mVal; exact r)) fun _ _ z => z⟩
  | false =>
    refine PE_imp (h.pe C hc) fun σ H Q ⟨G, env, st, w, eo, nb, q⟩ => ⟨G, env, st, w, eo, ?_⟩
    have e1 := evals_nobor (Γ := Γ) (nb rfl)
    have e2 : evE Γ true m env = evE Γ false m env := by
      have nb := nb rfl
      unfold bor at nb
      rw [Bool.or_eq_false_iff] at nb
      by_cases hv : ∃ i, m = .var i
      · obtain ⟨i, rfl⟩ := hv
        have h1 : isOwned env i = false := nb.1
        unfold evE
        have : getB env i = getZ env i := by
          unfold isOwned at h1
          unfold getB getZ
          split at h1
          · rename_i x b he
            subst h1
            rw [he]
          · rename_i hn
            cases e : env[i]? with
            | none => rfl
            | some o =>
              cases o with
              | none => rfl
              | some r => exact absurd e (hn r.1 r.2)
        simp only [this, if_true, Bool.false_eq_true, if_false]
      · exact evE_else fun i e => hv ⟨i, e⟩
    unfold evalB fstM at q
    rw [e2, wpM_bind] at q
    refine wpM_mono q (fun r st' k G' H' v a ro => ?_) fun _ _ z => z
    obtain ⟨G2, a2, r2, _, _⟩ := a.freeze ro
    exact k G2 H' v a2 (by unfold mVal; rw [if_neg Bool.false_ne_true]; exact r2)
def SI (ec : Nat → Option Value) (Γ : Gam) (T : Tb) (it : Src) : Prop := ∀ (l : Bool) (tg e : Expr) (X : Cx) (W : WX) (sc csc : Scope), Ctx ec T.FT T.GT T.MT T.CT Γ X W sc csc T.N → chkI T sc it tg e = true → PI X tg e (TIm l X.kx ec Γ W it)
theorem mvals1 {l : Bool} {K : KX} {G : Gh} {H : Hp} {vs : List V} {x : PV} (h : mVals l K G H vs [x]) : ∃ v, vs = [v] ∧ mVal l K G H v x := by
  cases h with
  | cons a b => cases b; exact ⟨_, rfl, a⟩
theorem mvals2 {l : Bool} {K : KX} {G : Gh} {H : Hp} {vs : List V} {x y : PV} (h : mVals l K G H vs [x, y]) : ∃ v w, vs = [v, w] ∧ mVal l K G H v x ∧ mVal l K G H w y := by
  cases h with
  | cons a b => cases b with | cons c d => cases d; exact ⟨_, _, rfl, a, c⟩
theorem mvals3 {l : Bool} {K : KX} {G : Gh} {H : Hp} {vs : List V} {x y z : PV} (h : mVals l K G H vs [x, y, z]) : ∃ v w u, vs = [v, w, u] ∧ mVal l K G H v x ∧ mVal l K G H w y ∧ mVal l K G H u z := by
  cases h with
  | cons a b => cases b with | cons c d => cases d with | cons f g => cases g; exact ⟨_, _, _, rfl, a, c, f⟩
theorem sI_val {m : Ex} (h : SE ec Γ T m) : SI ec Γ T (.val m) := fun l tg e X W sc csc C hc => by
  have hc' : chkE T sc m e = true := by unfold chkI at hc; exact hc
  refine PI_imp (PI_or (pi_list (h.m C hc' l)) (pi_tup (h.m C hc' l))) fun σ H R ⟨G, env, st, w, eo, nb, q⟩ => ?_
  unfold evalIt at q
  rw [wpM_bind] at q
  -- which of the two it is stands behind the reckoning
  cases e0 : evalB Γ m env st with
  | stuck =>
    unfold wpM at q
    simp only [evalB] at e0
    rw [e0] at q
    exact q.elim
  | exc k st' =>
    refine .inl ⟨G, env, st, w, eo, nb, ?_⟩
    unfold wpM at q ⊢
    simp only [evalB] at e0 ⊢
    rw [e0] at q
    rw [e0]
    exact q
  | ok x st' =>
    unfold wpM at q
    simp only [evalB] at e0
    rw [e0] at q
    obtain ⟨xs, e1, q⟩ := wpM_ofO (show wpM (ofO (seqOf x)) st' _ (EXC ec W σ G H) from q)
    cases x <;> try contradiction
    · cases e1
      right
      refine ⟨G, env, st, w, eo, nb, ?_⟩
      unfold wpM
      simp only [evalB]
      rw [e0]
      intro G' H' v a r
      obtain ⟨p, vs, rfl, h1, s⟩ := mSqT a.wr r
      exact ⟨p, rfl, ⟨vs, h1⟩, q G' H' _ a (wk_t s)⟩
    · cases e1
      left
      refine ⟨G, env, st, w, eo, nb, ?_⟩
      unfold wpM
      simp only [evalB]
      rw [e0]
      intro G' H' v a r
      obtain ⟨p, vs, rfl, h1, s⟩ := mSqL a.wr r
      exact ⟨p, rfl, ⟨vs, h1⟩, q G' H' _ a (wk_l s)⟩
theorem gl_of {sc csc : Scope} {X : Cx} {W : WX} (C : Ctx ec T.FT T.GT T.MT T.CT Γ X W sc csc T.N) {y : Str} (hy : glB sc y = true) : Gl X y := by
  show X.env.scope.names.lookup y = _
  rw [C.hsc]
  exact glB_ok hy
theorem args1 {ms : Exs} {T : Tb} {sc : Scope} {m : Ex} {x : Expr} (h : notStar x = true) (h2 : chkE T sc m x = true) : chkEs T sc (.cons m .nil) [x] = true := by
  simp [chkEs, h, h2]
theorem sI_enum {m : Ex} (ha : SE ec Γ T m) : SI ec Γ T (.enum m) := fun l tg e X W sc csc C hc => by
  cases tg <;> try exact nomatch (show false = true from hc)
  cases e <;> try exact nomatch (show false = true from hc)
  rename_i fe es ks pos
  cases fe <;> try exact nomatch (show false = true from hc)
  rename_i f p
  rcases es with _ | ⟨x, _ | ⟨_, _⟩⟩ <;> cases ks <;> try exact nomatch (show false = true from hc)
  unfold chkI at hc
  simp only [Bool.and_eq_true] at hc
  obtain ⟨⟨⟨h1, h2⟩, h3⟩, h4⟩ := hc
  have h1 := of_decide_eq_true h1
  subst h1
  have R := sEs_cons ha sEs_nil [x] X W sc csc C (by simp [chkEs, h3, h4])
  refine PI_imp (pi_enumK (gl_of C h2) (C.bn _ (by decide +kernel)) (R.m l) (star_cons h3)) fun σ H R ⟨G, env, st, w, eo, nb, q⟩ => ?_
  refine ⟨G, env, st, w, eo, nb, ?_⟩
  unfold evalIt at q
  unfold evalsB
  rw [wpM_bind] at q ⊢
  refine wpM_mono q (fun y st1 q => ?_) fun _ _ z => z
  unfold evalsB
  rw [wpM_bind, wpM_ret, wpM_ret]
  intro G' H' vs a r
  obtain ⟨v, rfl, r1⟩ := mvals1 r
  obtain ⟨zs, e1, q⟩ := wpM_ofO q
  split at e1
  · rename_i xs hx
    cases e1
    obtain ⟨k, p, vs, rfl, h1, s⟩ := mSq a.wr r1 hx
    exact ⟨k, p, vs, rfl, h1, q G' H' _ a (wk_e s)⟩
  · cases e1
theorem sI_zip2 {m m2 : Ex} (ha : SE ec Γ T m) (hb : SE ec Γ T m2) : SI ec Γ T (.zip2 m m2) := fun l tg e X W sc csc C hc => by
  cases tg <;> try exact nomatch (show false = true from hc)
  cases e <;> try exact nomatch (show false = true from hc)
  rename_i fe es ks pos
  cases fe <;> try exact nomatch (show false = true from hc)
  rename_i f p
  rcases es with _ | ⟨x, _ | ⟨y, _ | ⟨_, _⟩⟩⟩ <;> cases ks <;> try exact nomatch (show false = true from hc)
  unfold chkI at hc
  simp only [Bool.and_eq_true] at hc
  obtain ⟨⟨⟨⟨⟨h1, h2⟩, h3⟩, h4⟩, h5⟩, h6⟩ := hc
  have h1 := of_decide_eq_true h1
  subst h1
  have R := sEs_cons ha (sEs_cons hb sEs_nil) [x, y] X W sc csc C (by simp [chkEs, h3, h4, h5, h6])
  refine PI_imp (pi_zip2 (gl_of C h2) (C.bn _ (by decide +kernel)) (R.m l) (star_cons h3) (noStars_any (by simp [noStars, h4]))) fun σ H R ⟨G, env, st, w, eo, nb, q⟩ => ?_
  refine ⟨G, env, st, w, eo, nb, ?_⟩
  unfold evalIt at q
  unfold evalsB
  rw [wpM_bind] at q ⊢
  refine wpM_mono q (fun y st1 q => ?_) fun _ _ z => z
  unfold evalsB
  rw [wpM_bind] at q
  rw [wpM_bind, wpM_bind]
  refine wpM_mono q (fun y2 st1 q => ?_) fun _ _ z => z
  unfold evalsB
  rw [wpM_bind, wpM_ret, wpM_ret, wpM_ret]
  intro G' H' vs a r
  obtain ⟨v, v2, rfl, r1, r2⟩ := mvals2 r
  obtain ⟨zs, e1, q⟩ := wpM_ofO q
  split at e1
  · rename_i xs ys hx hy
    cases e1
    obtain ⟨k, p, vs, rfl, h1, s⟩ := mSq a.wr r1 hx
    obtain ⟨k2, p2, vs2, rfl, h12, s2⟩ := mSq a.wr r2 hy
    exact ⟨k, k2, p, p2, vs, vs2, rfl, h1, h12, q G' H' _ a (wk_z2 s s2)⟩
  · cases e1
theorem sI_zip3 {m m2 m3 : Ex} (ha : SE ec Γ T m) (hb : SE ec Γ T m2) (hd : SE ec Γ T m3) : SI ec Γ T (.zip3 m m2 m3) := fun l tg e X W sc csc C hc => by
  cases tg <;> try exact nomatch (show false = true from hc)
  cases e <;> try exact nomatch (show false = true from hc)
  rename_i fe es ks pos
  cases fe <;> try exact nomatch (show false = true from hc)
  rename_i f p
  rcases es with _ | ⟨x, _ | ⟨y, _ | ⟨z, _ | ⟨_, _⟩⟩⟩⟩ <;> cases ks <;> try exact nomatch (show false = true from hc)
  unfold chkI at hc
  simp only [Bool.and_eq_true] at hc
  obtain ⟨⟨⟨⟨⟨⟨⟨h1, h2⟩, h3⟩, h4⟩, h5⟩, h6⟩, h7⟩, h8⟩ := hc
  have h1 := of_decide_eq_true h1
  subst h1
  have R := sEs_cons ha (sEs_cons hb (sEs_cons hd sEs_nil)) [x, y, z] X W sc csc C (by simp [chkEs, h3, h4, h5, h6, h7, h8])
  refine PI_imp (pi_zip3 (gl_of C h2) (C.bn _ (by decide +kernel)) (R.m l) (star_cons h3) (noStars_any (by simp [noStars, h4, h5]))) fun σ H R ⟨G, env, st, w, eo, nb, q⟩ => ?_
  refine ⟨G, env, st, w, eo, nb, ?_⟩
  unfold evalIt at q
  unfold evalsB
  rw [wpM_bind] at q ⊢
  refine wpM_mono q (fun y st1 q => ?_) fun _ _ z => z
  unfold evalsB
  rw [wpM_bind] at q
  rw [wpM_bind, wpM_bind]
  refine wpM_mono q (fun y2 st1 q => ?_) fun _ _ z => z
  unfold evalsB
  rw [wpM_bind] at q
  rw [wpM_bind, wpM_bind]
  refine wpM_mono q (fun y3 st1 q => ?_) fun _ _ z => z
  unfold evalsB
  rw [wpM_bind, wpM_ret, wpM_ret, wpM_ret, wpM_ret]
  intro G' H' vs a r
  obtain ⟨v, v2, v3, rfl, r1, r2, r3⟩ := mvals3 r
  obtain ⟨zs, e1, q⟩ := wpM_ofO q
  split at e1
  · rename_i xs ys zs hx hy hz
    cases e1
    obtain ⟨k, p, vs, rfl, h1, s⟩ := mSq a.wr r1 hx
    obtain ⟨k2, p2, vs2, rfl, h12, s2⟩ := mSq a.wr r2 hy
    obtain ⟨k3, p3, vs3, rfl, h13, s3⟩ := mSq a.wr r3 hz
    exact ⟨k, k2, k3, p, p2, p3, vs, vs2, vs3, rfl, h1, h12, h13, q G' H' _ a (wk_z3 s s2 s3)⟩
  · cases e1
theorem mRel_wr {l : Bool} {G : Gh} {H : Hp} : ∀ G' H' st', mRel l G H G' H' st' → Wr G' H' st' := fun G' H' st' h => by
  unfold mRel at h
  cases l with
  | true => exact (show After _ _ _ _ _ from h).wr
  | false => exact (show Nw _ _ _ _ _ from h).w
theorem rngOk_le {a b : Int} (h : rngOk a b = true) : -(2 ^ 62) ≤ a ∧ a < 2 ^ 62 ∧ -(2 ^ 62) ≤ b ∧ b < 2 ^ 62 := by
  unfold rngOk at h
  simp only [Bool.and_eq_true, decide_eq_true_eq] at h
  omega
theorem sI_range1 {m : Ex} (ha : SE ec Γ T m) : SI ec Γ T (.range1 m) := fun l tg e X W sc csc C hc => by
  cases e <;> try exact nomatch (show false = true from hc)
  rename_i fe es ks pos
  cases fe <;> try exact nomatch (show false = true from hc)
  rename_i f p
  rcases es with _ | ⟨x, _ | ⟨_, _⟩⟩ <;> cases ks <;> try exact nomatch (show false = true from hc)
  unfold chkI at hc
  simp only [Bool.and_eq_true] at hc
  obtain ⟨⟨⟨h1, h2⟩, h3⟩, h4⟩ := hc
  have h1 := of_decide_eq_true h1
  subst h1
  have R := sEs_cons ha sEs_nil [x] X W sc csc C (by simp [chkEs, h3, h4])
  refine PI_imp (pi_range1 (gl_of C h2) (C.bn _ (by decide +kernel)) R.b (star_cons h3)) fun σ H R ⟨G, env, st, w, eo, nb, q⟩ => ?_
  refine ⟨G, env, st, w, eo, ?_⟩
  unfold evalIt at q
  unfold evalsB
  rw [wpM_bind] at q ⊢
  refine wpM_mono q (fun y st1 q => ?_) fun _ _ z => z
  unfold evalsB
  rw [wpM_bind, wpM_ret, wpM_ret]
  intro G' H' vs a r
  obtain ⟨v, rfl, r1⟩ := wreps1 r
  obtain ⟨zs, e1, qq⟩ := wpM_ofO q
  split at e1
  · rename_i n hx
    split at e1
    · rename_i hr
      cases e1
      cases y <;> try contradiction
      cases hx
      have := rngOk_le hr
      refine ⟨n, by rw [r1.int], this.2.2.1, this.2.2.2, qq G' H' _ a ?_⟩
      have z := wk_r (K := X.kx) (R := mRel l G' H') mRel_wr 0 n
      rwa [Int.sub_zero] at z
    · cases e1
  · cases e1
theorem sI_range2 {m m2 : Ex} (ha : SE ec Γ T m) (hb : SE ec Γ T m2) : SI ec Γ T (.range2 m m2) := fun l tg e X W sc csc C hc => by
  cases e <;> try exact nomatch (show false = true from hc)
  rename_i fe es ks pos
  cases fe <;> try exact nomatch (show false = true from hc)
  rename_i f p
  rcases es with _ | ⟨x, _ | ⟨y, _ | ⟨_, _⟩⟩⟩ <;> cases ks <;> try exact nomatch (show false = true from hc)
  unfold chkI at hc
  simp only [Bool.and_eq_true] at hc
  obtain ⟨⟨⟨⟨⟨h1, h2⟩, h3⟩, h4⟩, h5⟩, h6⟩ := hc
  have h1 := of_decide_eq_true h1
  subst h1
  have R := sEs_cons ha (sEs_cons hb sEs_nil) [x, y] X W sc csc C (by simp [chkEs, h3, h4, h5, h6])
  refine PI_imp (pi_range2 (gl_of C h2) (C.bn _ (by decide +kernel)) R.b (by rw [star_cons h3, star_cons h4]; rfl) (by rw [star_cons h4]; rfl)) fun σ H R ⟨G, env, st, w, eo, nb, q⟩ => ?_
  refine ⟨G, env, st, w, eo, ?_⟩
  unfold evalIt at q
  unfold evalsB
  rw [wpM_bind] at q ⊢
  refine wpM_mono q (fun y st1 q => ?_) fun _ _ z => z
  unfold evalsB
  rw [wpM_bind] at q
  rw [wpM_bind, wpM_bind]
  refine wpM_mono q (fun y2 st1 q => ?_) fun _ _ z => z
  unfold evalsB
  rw [wpM_bind, wpM_ret, wpM_ret, wpM_ret]
  intro G' H' vs a r
  obtain ⟨v, v2, rfl, r1, r2⟩ := wreps2 r
  obtain ⟨zs, e1, qq⟩ := wpM_ofO q
  split at e1
  · rename_i i j hx hy
    split at e1
    · rename_i hr
      cases e1
      cases y <;> try contradiction
      cases hx
      cases y2 <;> try contradiction
      cases hy
      exact ⟨i, j, by rw [r1.int, r2.int], rngOk_le hr, qq G' H' _ a (wk_r mRel_wr i j)⟩
    · cases e1
  · cases e1
end
end GB

/-! GSndO: objects in terms: fields, methods, making. -/
namespace GB
open PySem PySem.Spec PyProof.Rows L2
section
variable {ec : Nat → Option Value} {Γ : Gam} {T : Tb}
theorem varB_ok {X : Cx} {W : WX} {sc csc : Scope} (C : Ctx ec T.FT T.GT T.MT T.CT Γ X W sc csc T.N) {i : Nat} {x : Str} (h : varB T sc i x = true) : ∀ {pos : Pos}, PE X (.Name x pos) (tVar i) := by
  unfold varB at h
  rw [Bool.and_eq_true, Bool.and_eq_true] at h
  obtain ⟨⟨h1, h2⟩, h3⟩ := h
  obtain ⟨d1, d2⟩ := okName_ok h3
  exact fun {pos} => pe_var (by rw [C.hN]; exact of_decide_eq_true h1) (by rw [C.hsc]; exact visB_ok h2) d1 d2
structure FieldOk (X : Cx) (j : Nat) (f : Str) : Prop where
  cc : ClsCtx X (j / 10)
  lt : j / 10 < 2
  nm : (clsFlds (j / 10))[j % 10]? = some f
theorem fieldB_ok {X : Cx} {W : WX} {sc csc : Scope} (C : Ctx ec T.FT T.GT T.MT T.CT Γ X W sc csc T.N) {j : Nat} {f : Str} (h : fieldB T j f = true) : FieldOk X j f := by
  unfold fieldB at h
  simp only [Bool.and_eq_true] at h
  obtain ⟨⟨h1, h2⟩, h3⟩ := h
  exact ⟨C.cl _ h1, of_decide_eq_true h2, of_decide_eq_true h3⟩
theorem FieldOk.na {X : Cx} {j : Nat} {f : Str} (F : FieldOk X j f) : NoAttr X.K (He.ga X.K (clsName (j / 10))) f := F.cc.na f (List.mem_of_getElem? F.nm)
/-- an instance with its fields -/
theorem ObIs.fields {X : Cx} {G : Gh} {H : Hp} {st : S} {k : Nat} {og : OG} {ov : OV} (b : ObIs G H st k og ov) (hk : G.k = X.kx) {j : Nat} (hc : ov.c = j / 10) (lt : j / 10 < 2) : H og.a = some (.ins (He.ga X.K (clsName (j / 10))) og.dx ((clsFlds (j / 10)).zip og.vs)) ∧ ov.xs.length ≤ (clsFlds (j / 10)).length ∧ FReps G H og.vs og.ws ov.xs := by
  have := b.ins (by omega)
  rw [hk, hc] at this
  exact this
theorem fldB_ok {sc : Scope} {i j : Nat} {e : Expr} (h : fldB T sc i j e = true) : ∃ x f p pos, e = .Attribute (.Name x p) f pos ∧ varB T sc i x = true ∧ fieldB T j f = true := by
  unfold fldB at h
  split at h
  · rw [Bool.and_eq_true] at h
    exact ⟨_, _, _, _, rfl, h.1, h.2⟩
  · cases h
theorem sE_fld (i j : Nat) : SE ec Γ T (.fld i j) := .plain fun e X W sc csc C hc => by
  obtain ⟨x, f, p, pos, rfl, h1, h2⟩ := fldB_ok (show fldB T sc i j e = true from hc)
  have F := fieldB_ok C h2
  refine ⟨rfl, PE_imp (pe_fld (varB_ok C h1) rfl) fun σ H Q ⟨G, env, st, w, eo, q⟩ => ?_⟩
  unfold evE at q
  rw [wpM_bind] at q
  obtain ⟨k, og, ov, h1, h2, b, h3, q⟩ := wp_objF w eo q
  obtain ⟨z, e1, q⟩ := wpM_ofO q
  split at e1
  · rename_i y hy
    cases e1
    obtain ⟨g1, g2⟩ := fldV_some hy
    obtain ⟨f1, f2, f3⟩ := b.fields eo.kk h3 F.lt
    obtain ⟨v, v1, _, v2, _⟩ := f3.getV g1 g2
    exact ⟨_, h2, og.a, _, og.dx, _, v, rfl, f1, F.cc.cl, F.na, zip_lookup (clsFlds_nd _) F.nm v1, (Pl.start (ec := ec) (W := W) w eo).val q (by rw [eo.kk] at v2; exact v2)⟩
  · cases e1
/-- a list field, lent -/
def TLf (K : KX) (W : WX) (ec : Nat → Option Value) (i j : Nat) (env : Envi) : TE := fun σ H Q => ∃ G st, Wr G H st ∧ EnvOk K G env σ H ∧ ∃ k og ov p us ys, ObIs G H st k og ov ∧ ov.c = j / 10 ∧ getZ env i = some (.obj k) ∧ σ[i]? = some (some (.ref og.a)) ∧ og.vs[j % 10]? = some (.ref p) ∧ og.ws[j % 10]? = some (some us) ∧ fldL ov j = some ys ∧ G.om p ∧ H p = some (.lst us) ∧ Reps K G H us ys ∧ Q (.ref p) H
theorem pe_lf {X : Cx} {W : WX} {sc csc : Scope} (C : Ctx ec T.FT T.GT T.MT T.CT Γ X W sc csc T.N) {i j : Nat} {x f : Str} {p pos : Pos} (h1 : varB T sc i x = true) (h2 : fieldB T j f = true) {env : Envi} : PE X (.Attribute (.Name x p) f pos) (TLf X.kx W ec i j env) := by
  have F := fieldB_ok C h2
  refine PE_imp (pe_fld (varB_ok C h1) rfl) fun σ H Q ⟨G, st, w, eo, k, og, ov, p, us, ys, b, hc, _, hs, hv, hw, hl, om, hp, rs, q⟩ => ?_
  obtain ⟨f1, f2, f3⟩ := b.fields eo.kk hc F.lt
  exact ⟨_, hs, og.a, _, og.dx, _, _, rfl, f1, F.cc.cl, F.na, zip_lookup (clsFlds_nd _) F.nm hv, q⟩
/-- .. from its reckoning -/
theorem lf_of {K : KX} {W : WX} {i j : Nat} {env : Envi} {σ : L2.St} {G : Gh} {H : Hp} {st : S} (w : Wr G H st) (eo : EnvOk K G env σ H) (lt : j / 10 < 2) {k : Nat} {og : OG} {ov : OV} (b : ObIs G H st k og ov) (hc : ov.c = j / 10) (h1 : getZ env i = some (.obj k)) (hs : σ[i]? = some (some (.ref og.a)))
    {ys : List PV} (hl : fldL ov j = some ys) {Q : VK} (q : ∀ p us, og.vs[j % 10]? = some (.ref p) → og.ws[j % 10]? = some (some us) → G.om p → H p = some (.lst us) → Reps K G H us ys → Q (.ref p) H) : TLf K W ec i j env σ H Q := by
  have f3 := (b.ins (by omega)).2.2
  obtain ⟨p, us, v1, v2, v3, v4, v5, _⟩ := f3.getL (fldL_some hl)
  have v5 : Reps K G H us ys := by have := v5; rw [eo.kk] at this; exact this
  exact ⟨G, st, w, eo, k, og, ov, p, us, ys, b, hc, h1, hs, v1, v2, hl, v3, v4, v5, q p us v1 v2 v3 v4 v5⟩
theorem ObIs.latL {G : Gh} {H : Hp} {st : S} {k : Nat} {og : OG} {ov : OV} (b : ObIs G H st k og ov) {j : Nat} {p : Addr} {us : List V} (h1 : og.vs[j]? = some (V.ref p)) (h2 : og.ws[j]? = some (some us)) {ys : List PV} (h : ov.xs[j]? = some (.lst ys)) (hc : ov.c ≠ 2) : G.om p ∧ H p = some (.lst us) ∧ Reps G.k G H us ys := by
  obtain ⟨p', us', v1, v2, v3, v4, v5, _⟩ := (b.ins hc).2.2.getL h
  rw [h1] at v1
  cases v1
  rw [h2] at v2
  cases v2
  exact ⟨v3, v4, v5⟩
theorem fixP_ok {sc : Scope} {i j : Nat} {e s : Expr} (h : fixP T sc i j e = some s) : ∃ x f p pos ap, e = .Subscript (.Attribute (.Name x p) f ap) s pos ∧ varB T sc i x = true ∧ fieldB T j f = true ∧ notSlice s = true := by
  unfold fixP at h
  split at h
  · split at h
    · rename_i hh
      cases h
      rw [Bool.and_eq_true] at hh
      obtain ⟨x, f, p, pos, rfl, h1, h2⟩ := fldB_ok hh.1
      exact ⟨x, f, p, _, pos, rfl, h1, h2, hh.2⟩
    · cases h
  · cases h
theorem sE_fix {i j : Nat} {m : Ex} (hm : SE ec Γ T m) : SE ec Γ T (.fix i j m) := .plain fun e X W sc csc C hc => by
  have hc : (match fixP T sc i j e with | some s => chkE T sc m s | none => false) = true := hc
  split at hc
  case h_2 => cases hc
  rename_i s hs
  have h4 := hc
  obtain ⟨x, f, p, pos, ap, rfl, h1, h2, h3⟩ := fixP_ok hs
  have F := fieldB_ok C h2
  refine ⟨rfl, ⟨fun pins s0 σ H Q I ⟨G, env, st, w, eo, q⟩ => ?_⟩⟩
  refine (pe_ix ix_list (pe_lf (env := env) C h1 h2) (hm.lent C h4) (plain_ix h3)).run pins s0 σ H Q I ?_
  unfold evE at q
  rw [wpM_bind] at q
  obtain ⟨k, og, ov, g1, g2, b, g3, q⟩ := wp_objF w eo q
  rw [wpM_bind] at q
  obtain ⟨ys0, e1, q⟩ := wpM_ofO q
  refine lf_of w eo F.lt b g3 g1 g2 e1 fun p us v1 v2 _ _ _ => ?_
  refine (Pl.start w eo).bindB q fun y st1 G1 H1 u p1 a1 ru q => ?_
  rw [wpM_bind] at q
  replace q := wp_objF p1.a.wr p1.ev q
  obtain ⟨k', og', ov', g1', g2', b', g3', q⟩ := q
  rw [g1] at g1'
  cases g1'
  simp only at q
  split at q
  · rename_i hv
    replace q := wpM_ofO q
    obtain ⟨z, e2, q⟩ := q
    split at e2
    · rename_i ys n hy hn
      split at e2
      · rename_i z' hz
        cases e2
        cases y <;> try contradiction
        cases hn
        have e := b.same b' a1.le.o hv
        subst e
        obtain ⟨_, c2, c3⟩ := b'.latL v1 v2 (fldL_some hy) (by have := F.lt; omega)
        rw [p1.ev.kk] at c3
        obtain ⟨v', w1, w2⟩ := reps_at c3 hz
        exact ⟨p, us, n, v', rfl, by rw [ru.int], .inl (.inl c2), w1, p1.val q w2⟩
      · cases e2
    · cases e2
  · exact q.elim
theorem sE_flen (i j : Nat) : SE ec Γ T (.flen i j) := .plain fun e X W sc csc C hc => by
  have hc : flenB T sc i j e = true := hc
  unfold flenB at hc
  split at hc
  case h_2 => cases hc
  rename_i g gp o pos
  simp only [Bool.and_eq_true] at hc
  obtain ⟨⟨h0, h0'⟩, h3⟩ := hc
  obtain ⟨x, f, p, ap, rfl, h1, h2⟩ := fldB_ok h3
  have h0 := of_decide_eq_true h0
  subst h0
  have F := fieldB_ok C h2
  have gl : Gl X "len" := gl_of C h0'
  refine ⟨rfl, ⟨fun pins s0 σ H Q I ⟨G, env, st, w, eo, q⟩ => ?_⟩⟩
  refine (pe_callB call_len_seq gl (C.bn "len" (by decide +kernel)) PySem.boot_len (pa_cons (pe_lf (env := env) (W := W) (ec := ec) C h1 h2) pa_nil)).run pins s0 σ H Q I ?_
  unfold evE at q
  rw [wpM_bind] at q
  obtain ⟨k, og, ov, g1, g2, b, g3, q⟩ := wp_objF w eo q
  replace q := wpM_ofO q
  obtain ⟨z, e1, q⟩ := q
  split at e1
  · rename_i ys hy
    cases e1
    unfold tCB tCons
    refine lf_of w eo F.lt b g3 g1 g2 hy fun p us v1 v2 v3 v4 v5 => ?_
    refine ⟨p, us, rfl, .inl (.inl (.inl v4)), ?_⟩
    rw [v5.length]
    exact (Pl.start (ec := ec) (W := W) w eo).val q (.int _)
  · cases e1
theorem oneB_ok {u : Expr} (h : oneB u = true) : ∃ k p pos, u = .UnaryOp .USub (.Constant (.int 1) k p) pos := by
  unfold oneB at h
  split at h
  · have := of_decide_eq_true h
    subst this
    exact ⟨_, _, _, rfl⟩
  · cases h
theorem sE_fcut (i j : Nat) (c : Bool) : SE ec Γ T (.fcut i j c) := .plain fun e X W sc csc C hc => by
  have hc : fcutB T sc i j c e = true := hc
  unfold fcutB at hc
  split at hc
  case h_3 => cases hc
  · rename_i g gp o pos
    simp only [Bool.and_eq_true] at hc
    obtain ⟨⟨⟨hcc, h0⟩, h0'⟩, h3⟩ := hc
    obtain ⟨x, f, p, ap, rfl, h1, h2⟩ := fldB_ok h3
    have h0 := of_decide_eq_true h0
    subst h0
    have hcc : c = false := by simpa using hcc
    subst hcc
    have F := fieldB_ok C h2
    have gl : Gl X "list" := gl_of C h0'
    refine ⟨rfl, ⟨fun pins s0 σ H Q I ⟨G, env, st, w, eo, q⟩ => ?_⟩⟩
    refine (pe_callTy call_list_of gl (C.bn "list" (by decide +kernel)) (by decide +kernel) (pa_cons (pe_lf (env := env) (W := W) (ec := ec) C h1 h2) pa_nil)).run pins s0 σ H Q I ?_
    unfold evE at q
    rw [wpM_bind] at q
    obtain ⟨k, og, ov, g1, g2, b, g3, q⟩ := wp_objF w eo q
    replace q := wpM_ofO q
    obtain ⟨z, e1, q⟩ := q
    split at e1
    · rename_i ys hy
      cases e1
      unfold tCB tCons
      refine lf_of w eo F.lt b g3 g1 g2 hy fun p us v1 v2 v3 v4 v5 => ?_
      exact ⟨p, us, rfl, .inl (.inl (.inl v4)), fun l hl => ((Pl.start (ec := ec) (W := W) w eo).post q).lst w v5 hl⟩
    · cases e1
  · rename_i o u sp pos
    simp only [Bool.and_eq_true] at hc
    obtain ⟨⟨hcc, h3⟩, h4⟩ := hc
    subst hcc
    obtain ⟨x, f, p, ap, rfl, h1, h2⟩ := fldB_ok h3
    obtain ⟨_, _, _, rfl⟩ := oneB_ok h4
    have F := fieldB_ok C h2
    refine ⟨rfl, ⟨fun pins s0 σ H Q I ⟨G, env, st, w, eo, q⟩ => ?_⟩⟩
    refine (pe_slice sl_list (pe_lf (env := env) (W := W) (ec := ec) C h1 h2) po_none (po_some (pe_un un_neg pe_int))).run pins s0 σ H Q I ?_
    unfold evE at q
    rw [wpM_bind] at q
    obtain ⟨k, og, ov, g1, g2, b, g3, q⟩ := wp_objF w eo q
    replace q := wpM_ofO q
    obtain ⟨z, e1, q⟩ := q
    split at e1
    · rename_i ys hy
      cases e1
      show TLf X.kx W ec i j env σ H _
      refine lf_of w eo F.lt b g3 g1 g2 hy fun p us v1 v2 v3 v4 v5 => ?_
      refine ⟨1, rfl, -1, rfl, p, us, rfl, .inl (.inl v4), fun l hl => ?_⟩
      rw [cut_same]
      exact ((Pl.start (ec := ec) (W := W) w eo).post q).lst w (v5.cut none (some (-1))) hl
    · cases e1
end
/-! ### methods and makings that may raise -/
theorem call_form {env : PySem.Env} {o : Expr} {m : Str} {ap pos : Pos} {as : List Expr} (hs : noStars as = true) (hl : (ap.endLine == pos.line) = true) (hb : attributeBase o m env (eval o env) = eval o env) (hn : as.length < 20) :
    eval (.Call (.Attribute o m ap) as [] pos) env = (do
      let ov ← eval o env
      standAt ap.atName
      let (f, first) ← holding [ov] (getMethod ov m (do return (← importBound o env).getD true))
      callWith pos f first (backTo pos (starEach as env)) (backToKw pos (keywordEach [] env))) := by
  rw [arm_eval_Call, hb]
  have hfew : methodCallForm (as.length + ([] : List Keyword).length) (backTo pos (starEach as env)) (backToKw pos (keywordEach [] env)) = true := by
    unfold methodCallForm
    have h1 : (backTo pos (starEach as env)).all (!·.1) = true := by
      have := noStars_any (env := env) (pos := pos) hs
      rw [List.all_eq_not_any_not]
      simpa using this
    rw [h1]
    simp [backToKw, keywordEach]
    omega
  have hpos : methodCallPos true o env ap pos = pure pos := by unfold methodCallPos; simp [hl]
  unfold methodCall
  rw [hfew, hpos]
  rfl
section
variable {X : Cx} {CX : CXT} {k : Nat} {f C : Addr} {fd : FuncData} {ps : List Str} {sp : Sp} {E : L2.St → XK} {x m : Str} {p pos apos : Pos} {e o : Expr} {es : List Expr} {ta : TE} {t : TA}
def tMethS (C : Addr) (m : Str) (sp : Sp) (E : L2.St → XK) (ta : TE) (t : TA) : TE := fun σ H Q => ta σ H fun x H1 => ∃ a dx fs, x = .ref a ∧ H1 a = some (.ins C dx fs) ∧ fs.lookup m = none ∧ t σ H1 fun vs H2 => sp (x :: vs) H2 Q (E σ)
theorem pe_mS {pl : Sem Bool} (he : PE X o ta) (c : Cls X.K C) (hm : Meth X.K C m f) (F : FnOk X.prog X.w X.K X.mg X.base CX k f fd ps sp) (hr : Room k X.A) (hb : Binds X.K fd ps []) (hx : ∀ σ, PassesAt CX X σ (E σ)) (ha : PA X (e :: es) t)
    (hst : starEach (e :: es) X.env = (false, eval e X.env) :: starEach es X.env) (hpl : (backTo pos (starEach es X.env)).any (·.1) = false)
    (ht : eval (.Call (.Attribute o m apos) (e :: es) [] pos) X.env = (do
      let ov ← eval o X.env
      standAt apos.atName
      let (f, first) ← holding [ov] (getMethod ov m pl)
      callWith pos f first (backTo pos (starEach (e :: es) X.env)) (backToKw pos (keywordEach [] X.env))) := by rfl) :
    PE X (.Call (.Attribute o m apos) (e :: es) [] pos) (tMethS C m sp E ta t) := by
  refine ⟨fun pins s σ H Q I h => ?_⟩
  refine PySem.W.methodCall_KW (pl := pl) (thn (he.run pins s σ H _ I h) fun u s1 ⟨x, H1, I1, rx, a, dx, fs, ex, ea, l, q⟩ => ?_) ht
  subst ex
  obtain rfl : u = Value.ref a := rx
  refine getmeth_ok I1 ea c hm l ?_
  refine PySem.W.callWith_K (first := [.ref a]) (h₀ := X.base) I.ok.mod.kin hm.kp (thn (ha.run pos pins s1 σ H1 _ I1 q) fun us s2 ⟨vs, H2, I2, r, q2⟩ => ⟨I2.kIn, ?_⟩) hst hpl
  exact run_fnS (us := .ref a :: us) (vs := .ref a :: vs) F hr hb (hx σ) I2 (.cons rfl r) q2
theorem pe_mS0 {pl : Sem Bool} (he : PE X o ta) (c : Cls X.K C) (hm : Meth X.K C m f) (F : FnOk X.prog X.w X.K X.mg X.base CX k f fd ps sp) (hr : Room k X.A) (hb : Binds X.K fd ps []) (hx : ∀ σ, PassesAt CX X σ (E σ))
    (ht : eval (.Call (.Attribute o m apos) [] [] pos) X.env = (do
      let ov ← eval o X.env
      standAt apos.atName
      let (f, first) ← holding [ov] (getMethod ov m pl)
      callWith pos f first (backTo pos (starEach [] X.env)) (backToKw pos (keywordEach [] X.env))) := by rfl) :
    PE X (.Call (.Attribute o m apos) [] [] pos) (tMethS C m sp E ta tNil) := by
  refine ⟨fun pins s σ H Q I h => ?_⟩
  refine PySem.W.methodCall_KW (pl := pl) (thn (he.run pins s σ H _ I h) fun u s1 ⟨x, H1, I1, rx, a, dx, fs, ex, ea, l, q⟩ => ?_) ht
  subst ex
  obtain rfl : u = Value.ref a := rx
  refine getmeth_ok I1 ea c hm l ?_
  exact PySem.W.callWith_K0 (first := [.ref a]) I1.kIn hm.kp (run_fnS (us := [.ref a]) (vs := [.ref a]) F hr hb (hx σ) I1 (.cons rfl .nil) q)
def tMakeS (C : Addr) (sp : Sp) (E : L2.St → XK) (t : TA) : TE := fun σ H Q => t σ H fun vs H1 => ∀ x dx, H1 x = none → H1 dx = none → dx ≠ x →
  sp (.ref x :: vs) (upd (upd H1 dx (.own x)) x (.ins C dx [])) (fun v H2 => v = .non ∧ Q (.ref x) H2) (E σ)
theorem run_makeS {pins : List (Addr × Obj)} {σ : L2.St} {H : Hp} {s : Shared} {Q : VK} {us : List Value} {vs : List V} (M : Mk X.K C f) (F : FnOk X.prog X.w X.K X.mg X.base CX k f fd ps sp) (hr : Room (k + 1) X.A) (hb : Binds X.K fd ps [])
    (hx : PassesAt CX X σ (E σ)) (I : Inv X pins σ H s) (r : Vals vs us)
    (h : ∀ x dx, H x = none → H dx = none → dx ≠ x → sp (.ref x :: vs) (upd (upd H dx (.own x)) x (.ins C dx [])) (fun v H2 => v = .non ∧ Q (.ref x) H2) (E σ)) :
    wpAny (model X.prog X.w) X.A (call (.ref C) us) (EP X pins σ Q) X.xe s := by
  have hq := h (s.heap.objs.size + 1) s.heap.objs.size (I.hok.fresh (Nat.le_succ _)) (I.hok.fresh (Nat.le_refl _)) (Nat.ne_of_lt (Nat.lt_succ_self _))
  have I2 := Inv.made (C := C) I
  have r2 : Vals (V.ref (s.heap.objs.size + 1) :: vs) (Value.ref (s.heap.objs.size + 1) :: us) := .cons rfl r
  have hl : (Value.ref (s.heap.objs.size + 1) :: us).length = ps.length := by
    have e := r2.length
    rw [F.len _ _ _ _ hq] at e
    exact e.symm
  have hbb := hb _ (Value.ref (s.heap.objs.size + 1) :: us) I2.kIn (by rw [List.append_nil]; exact hl)
  rw [List.append_nil] at hbb
  refine wpAny_call (make_map (f := f) I.kIn M.makes M.init (beq_iff_eq.mp M.fn) (codeAny_mono (F.run _ X.stack _ _ ⟨Value.ref (s.heap.objs.size + 1) :: us, []⟩ (Value.ref (s.heap.objs.size + 1) :: us) _ _ (E σ) (hr.make C us [])
    (I2.env0.make C us []) hbb r2 hq) fun r s' hq' => ?_))
  cases r with
  | error e => exact hx pins _ _ e s' I2 hq'
  | ok fl =>
    cases fl with
    | ret u =>
      obtain ⟨v, H', I3, rv, ev, q3⟩ := I2.after hq'
      subst ev
      exact ⟨rv, ⟨V.ref (s.heap.objs.size + 1), H', I3, rfl, q3⟩⟩
    | next => exact False.elim hq'
    | brk => exact False.elim hq'
    | cont => exact False.elim hq'
theorem pe_makeS (M : Mk X.K C f) (F : FnOk X.prog X.w X.K X.mg X.base CX k f fd ps sp) (hr : Room (k + 1) X.A) (hg : Gl X x) (hm : X.mg x = some (.ref C)) (hb : Binds X.K fd ps []) (hx : ∀ σ, PassesAt CX X σ (E σ))
    (ha : PA X (e :: es) t) (hdb : (x == ("__debug__" : Str)) = false) (he : starEach (e :: es) X.env = (false, eval e X.env) :: starEach es X.env) (hpl : (backTo pos (starEach es X.env)).any (·.1) = false) :
    PE X (.Call (.Name x p) (e :: es) [] pos) (tMakeS C sp E t) := by
  refine ⟨fun pins s σ H Q I h => ?_⟩
  refine wpAny_Call_Name_kw (ld_glob I hg hm ?_ hdb)
  refine PySem.W.callWith_K (h₀ := X.base) I.ok.mod.kin M.kp (thn (ha.run pos pins s σ H _ I h) fun us s1 ⟨vs, H1, I1, r, q⟩ => ⟨I1.kIn, ?_⟩) he hpl
  exact run_makeS M F hr hb (hx σ) I1 r q
end
section
variable {ec : Nat → Option Value} {Γ : Gam} {T : Tb}
theorem mcallP_ok {sc : Scope} {c f i : Nat} {e : Expr} {as : List Expr} (h : mcallP T sc c f i e = some as) : ∃ x m p ap pos, e = .Call (.Attribute (.Name x p) m ap) as [] pos ∧ T.CT c = true ∧ c < 2 ∧ varB T sc i x = true ∧ T.MT f = some (c, m) ∧ (clsFlds c).contains m = false ∧ (ap.endLine == pos.line) = true ∧ as.length < 20 := by
  unfold mcallP at h
  split at h
  · split at h
    · rename_i hh
      cases h
      simp only [Bool.and_eq_true, Bool.not_eq_true'] at hh
      obtain ⟨⟨⟨⟨⟨⟨h1, h2⟩, h3⟩, h4⟩, h5⟩, h6⟩, h7⟩ := hh
      exact ⟨_, _, _, _, _, rfl, h1, of_decide_eq_true h2, h3, of_decide_eq_true h4, h5, h6, of_decide_eq_true h7⟩
    · cases h
  · cases h
theorem sE_mcall {c f i : Nat} {ms : Exs} (hs : SEs ec Γ T ms) : SE ec Γ T (.mcall c f i ms) := .plain fun e X W sc csc C hc => by
  have hc : (match mcallP T sc c f i e with | some as => chkEs T sc ms as | none => false) = true := hc
  split at hc
  case h_2 => cases hc
  rename_i as has
  have hcs := hc
  clear hc
  obtain ⟨x, m, p, ap, pos, rfl, h1, h2, h3, h4, h5, h6, h7⟩ := mcallP_ok has
  have R := hs as X W sc csc C hcs
  have ns := chkEs_noStars hcs
  have cc := C.cl c h1
  refine ⟨rfl, ?_⟩
  cases hf : Γ.mt f with
  | none =>
    refine ⟨fun pins s σ H Q I q => ?_⟩
    obtain ⟨G, env, st, w, eo, q⟩ := q
    unfold evE at q
    rw [hf] at q
    exact q.elim
  | some g =>
    obtain ⟨c', m', fd, ps, k, e1, e2, e3, e4, F⟩ := C.mt f g hf
    rw [h4] at e1
    cases e1
    have key : ∀ {σ : L2.St} {H : Hp} {Q : VK} {G : Gh} {env : Envi} {st : S}, Wr G H st → EnvOk X.kx G env σ H → wpM (evE Γ false (.mcall c f i ms) env) st (OKE X.kx G H Q) (EXC ec W σ G H) →
        tMethS (He.ga X.K (clsName c)) m (spOf X.kx ec g) (WE W) (tVar i) (TAz X.kx ec Γ W ms) σ H Q := fun {σ H Q G env st} w eo q => by
      unfold evE at q
      rw [hf, wpM_bind] at q
      obtain ⟨g', e7, q⟩ := wpM_ofO q
      cases e7
      rw [wpM_bind] at q
      replace q := wp_objAt w eo q
      obtain ⟨k0, og, ov, g1, g2, b, q⟩ := q
      split at q
      case isFalse => exact q.elim
      rename_i hcc
      have hcc : ov.c = c := hcc
      obtain ⟨f1, f2, f3⟩ := b.ins (by omega)
      rw [eo.kk, hcc] at f1
      have hm : m ∉ clsFlds c := fun z => by
        have : (clsFlds c).contains m = true := by simpa using z
        rw [h5] at this
        cases this
      refine ⟨.ref og.a, g2, og.a, og.dx, _, rfl, f1, zip_none hm, (Pl.start w eo).bindAz q fun xs st1 G1 H1 vs p1 a1 rs q => ?_⟩
      obtain ⟨o', e5, e6, _⟩ := p1.a.le.o k0 og b.g
      refine ⟨G1, .obj k0 :: xs, st1, p1.a.wr, p1.ev.kk, .cons (.obj p1.ev.kk e5 e6) rs, wpM_mono q (fun r st2 q => p1.okE q) fun kk st2 q G' H' cls b hk => ?_⟩
      exact EXC.mono p1.w p1.a q _ _ cls b hk
    cases as with
    | nil =>
      cases ms with
      | cons _ _ => unfold chkEs at hcs; cases hcs
      | nil =>
        refine PE_imp (pe_mS0 (varB_ok C h3) cc.cl e2 F (e4.mono (Nat.le_succ k)) e3 (passAt C.tk) (call_form (by rfl) h6 rfl h7)) fun σ H Q ⟨G, env, st, w, eo, q⟩ => ?_
        obtain ⟨v, k1, a, dx, fs, k2, k3, k4, G2, env2, st2, w2, eo2, q2⟩ := key w eo q
        refine ⟨v, k1, a, dx, fs, k2, k3, k4, ?_⟩
        unfold evals at q2
        exact q2 G2 H [] (After.refl w2) .nil
    | cons e es =>
      unfold noStars at ns
      rw [Bool.and_eq_true] at ns
      exact PE_imp (pe_mS (varB_ok C h3) cc.cl e2 F (e4.mono (Nat.le_succ k)) e3 (passAt C.tk) R.z (star_cons ns.1) (noStars_any ns.2) (call_form (by unfold noStars; rw [ns.1, ns.2]; rfl) h6 rfl h7)) fun σ H Q ⟨G, env, st, w, eo, q⟩ => key w eo q
theorem mkP_ok {sc : Scope} {c f : Nat} {e : Expr} {as : List Expr} (h : mkP T sc c f e = some as) : ∃ x p pos, e = .Call (.Name x p) as [] pos ∧ T.CT c = true ∧ c < 2 ∧ x = clsName c ∧ T.MT f = some (c, ("__init__" : Str)) ∧ glB sc x = true ∧ as ≠ [] := by
  unfold mkP at h
  split at h
  · split at h
    · rename_i hh
      cases h
      simp only [Bool.and_eq_true, Bool.not_eq_true'] at hh
      obtain ⟨⟨⟨⟨⟨h1, h2⟩, h3⟩, h4⟩, h5⟩, h6⟩ := hh
      exact ⟨_, _, _, rfl, h1, of_decide_eq_true h2, of_decide_eq_true h3, of_decide_eq_true h4, h5, fun z => by rw [z] at h6; cases h6⟩
    · cases h
  · cases h
theorem wpM_mkO {c : Nat} {g : List PV → M (PV × Bool)} {xs : List PV} {s : S} {ok : PV × Bool → S → Prop} {ex : Nat → S → Prop} (h : wpM (mkO c g xs) s ok ex) :
    wpM (g (.obj s.ob.length :: xs)) { s with ob := s.ob ++ [⟨c, 0, [], []⟩] } (fun r s' => r.1 = .non ∧ ok (.obj s.ob.length, false) s') ex := by
  unfold wpM mkO at h
  unfold wpM
  cases q : g (.obj s.ob.length :: xs) { s with ob := s.ob ++ [⟨c, 0, [], []⟩] } with
  | stuck => rw [q] at h; exact h.elim
  | ok r s' =>
    rw [q] at h
    obtain ⟨r1, r2⟩ := r
    cases r1 <;> first | exact ⟨rfl, h⟩ | exact h.elim
  | exc k s' => rw [q] at h; exact h
theorem sE_mk {c f : Nat} {ms : Exs} (hs : SEs ec Γ T ms) : SE ec Γ T (.mk c f ms) := .plain fun e X W sc csc C hc => by
  have hc : (match mkP T sc c f e with | some as => chkEs T sc ms as | none => false) = true := hc
  split at hc
  case h_2 => cases hc
  rename_i as has
  have hcs := hc
  clear hc
  obtain ⟨x, p, pos, rfl, h1, h2, h3, h4, h5, h6⟩ := mkP_ok has
  subst h3
  have R := hs as X W sc csc C hcs
  have ns := chkEs_noStars hcs
  have cc := C.cl c h1
  refine ⟨rfl, ?_⟩
  cases hf : Γ.mt f with
  | none =>
    refine ⟨fun pins s σ H Q I q => ?_⟩
    obtain ⟨G, env, st, w, eo, q⟩ := q
    unfold evE at q
    rw [hf] at q
    exact q.elim
  | some g =>
    obtain ⟨c', m', fd, ps, k, e1, e2, e3, e4, F⟩ := C.mt f g hf
    rw [h4] at e1
    cases e1
    cases as with
    | nil => exact absurd rfl h6
    | cons e es =>
      unfold noStars at ns
      rw [Bool.and_eq_true] at ns
      have gl : Gl X (clsName c) := gl_of C h5
      have hd : (clsName c == ("__debug__" : Str)) = false := by
        unfold clsName
        split <;> decide +kernel
      refine PE_imp (pe_makeS cc.mkr F e4 gl cc.mg e3 (passAt C.tk) R.z hd (star_cons ns.1) (noStars_any ns.2)) fun σ H Q ⟨G, env, st, w, eo, q⟩ => ?_
      unfold evE at q
      rw [hf, wpM_bind] at q
      obtain ⟨g', e7, q⟩ := wpM_ofO q
      cases e7
      refine (Pl.start w eo).bindAz q fun xs st1 G1 H1 vs p1 a1 rs q => ?_
      replace q := wpM_mkO q
      intro a dx ha hdx hne
      have kk : ∀ q u, H1 q = some u → upd (upd H1 dx (.own a)) a (.ins (He.ga X.K (clsName c)) dx []) q = some u := fun q u e => by
        rw [upd_ne (ne_of_none e ha), upd_ne (ne_of_none e hdx)]; exact e
      have A := p1.a.wr.addO (og := ⟨a, dx, c, 0, [], [], []⟩) (ov := ⟨c, 0, [], []⟩) kk ha (fun j p us h => by simp at h) (.inl ⟨_, _, _, upd_same⟩) ⟨rfl, rfl, .inr rfl, by
        rw [if_neg (show ¬ c = 2 by omega)]
        refine ⟨?_, Nat.zero_le _, .nil⟩
        show upd _ a _ a = some (.ins (He.ga G1.k.K (clsName c)) dx ((clsFlds c).zip []))
        rw [upd_same, p1.ev.kk, List.zip_nil_right]⟩
      have gl1 : G1.oo.length = st1.ob.length := p1.a.wr.ol
      have p2 := p1.step A
      refine ⟨_, .obj st1.ob.length :: xs, _, A.wr, p1.ev.kk, .cons (.obj (o := ⟨a, dx, c, 0, [], [], []⟩) p1.ev.kk (by rw [← gl1]; simp) rfl) (rs.mono p1.a.wr A.le A.keep), wpM_mono q (fun r st2 q G' H' v b ro => ?_) fun kk st2 q G' H' cls b hk => ?_⟩
      · obtain ⟨q1, q2⟩ := q
        obtain ⟨r1, r2⟩ := r
        subst q1
        unfold ResOk at ro
        have rn : v = .non := by
          cases r2 with
          | false => rw [if_neg Bool.false_ne_true] at ro; cases ro; rfl
          | true =>
            rw [if_pos rfl] at ro
            obtain ⟨_, _, _, _, z, _⟩ := ro
            cases z
        refine ⟨rn, ?_⟩
        have p3 := p2.step b
        obtain ⟨o', e5, e6, _⟩ := b.le.o st1.ob.length ⟨a, dx, c, 0, [], [], []⟩ (by rw [← gl1]; simp)
        exact q2 G' H' _ p3.a (by unfold ResOk; rw [if_neg Bool.false_ne_true]; exact .obj p3.ev.kk e5 e6)
      · exact EXC.mono p2.w p2.a q _ _ cls b hk
end
end GB

/-! GDct: dicts with tuple keys. -/
namespace GB
open PySem PySem.Spec PyProof.Rows L2
section
variable {X : Cx} {pins : List (Addr × Obj)} {σ : L2.St} {H : Hp} {s : Shared} {G : Gh} {A : Around} {E : Value → Shared → Prop}
mutual
theorem nested_of (I : Inv X pins σ H s) : ∀ {x : PV} {k : NestedKey} {v : V} {u : Value}, Rep X.kx G H v x → x.nk = some k → RelV v u → NestedIs s.heap k u
  | .int i, k, _, u, r, e, q => by
    cases r
    cases e
    obtain ⟨t, rfl⟩ := q
    exact .int i t
  | .str z, k, _, u, r, e, q => by
    cases r
    cases e
    obtain ⟨t, rfl⟩ := q
    exact .text z t
  | .tup xs, k, _, u, r, e, q => by
    unfold PV.nk at e
    cases h : PV.nks xs with
    | none => rw [h] at e; cases e
    | some ks =>
      rw [h] at e
      cases e
      cases r with
      | @tup p vs _ h1 h2 =>
        cases q
        obtain ⟨its, rv, ik, _⟩ := inv_kd (X := X) .t I h1
        obtain ⟨o, n, e1, e2, e3⟩ := isK_at .t ik
        exact .tup e1 e2 e3 (nested_all I h2 h (by simpa using rv))
  | .non, _, _, _, _, e, _ => nomatch e
  | .bl _, _, _, _, _, e, _ => nomatch e
  | .lst _, _, _, _, _, e, _ => nomatch e
  | .dct _, _, _, _, _, e, _ => nomatch e
  | .cnt, _, _, _, _, e, _ => nomatch e
  | .obj _, _, _, _, _, e, _ => nomatch e
  | .exc _, _, _, _, _, e, _ => nomatch e
  | .scr _, _, _, _, _, e, _ => nomatch e
theorem nested_all (I : Inv X pins σ H s) : ∀ {xs : List PV} {ks : List NestedKey} {vs : List V} {us : List Value}, Reps X.kx G H vs xs → PV.nks xs = some ks → Vals vs us → NestedAll s.heap ks us
  | [], _, _, _, r, e, q => by
    cases r
    cases e
    cases q
    exact .nil
  | x :: xs, ks, _, _, r, e, q => by
    unfold PV.nks at e
    cases h : PV.nk x with
    | none => rw [h] at e; cases e
    | some k =>
      cases h2 : PV.nks xs with
      | none => rw [h, h2] at e; cases e
      | some k2 =>
        rw [h, h2] at e
        cases e
        cases r with
        | cons a b =>
          cases q with
          | cons c d => exact .cons (nested_of I a h c) (nested_all I b h2 d)
end
/-- a key: the tuple, its nested key -/
theorem key_is (I : Inv X pins σ H s) {x : PV} {k : NestedKey} {v : V} {u : Value} (r : Rep X.kx G H v x) (e : keyOk x = some k) (q : RelV v u) : ∃ a, v = .ref a ∧ u = .ref a ∧ (nestedKind X.prog X.w).is s.heap k a := by
  unfold keyOk at e
  split at e
  · rename_i xs
    cases h : PV.nk (.tup xs) with
    | none => rw [h] at e; cases e
    | some k' =>
      rw [h] at e
      simp only at e
      split at e
      · rename_i hd
        cases e
        have n := nested_of I r h q
        cases r with
        | @tup p vs _ h1 h2 =>
          cases q
          exact ⟨p, rfl, rfl, n, hd⟩
      · cases e
  · cases e
theorem keyOk_nk {x : PV} {k : NestedKey} (e : keyOk x = some k) : x.nk = some k ∧ k.depth ≤ 8 := by
  unfold keyOk at e
  split at e
  · rename_i xs
    cases h : PV.nk (.tup xs) with
    | none => rw [h] at e; cases e
    | some k' =>
      rw [h] at e
      simp only at e
      split at e
      · rename_i hd
        cases e
        exact ⟨rfl, hd⟩
      · cases e
  · cases e
/-- the entries as the heap has them -/
structure EntsAt (ents : List (NestedKey × Addr × V)) (xs : List (NestedKey × Addr × Value)) : Prop where
  k : xs.map (fun x => (x.1, x.2.1)) = ents.map (fun x => (x.1, x.2.1))
  v : Vals (ents.map (·.2.2)) (xs.map (·.2.2))
theorem EReps.is (I : Inv X pins σ H s) (hk : G.k = X.kx) : ∀ {es : List (NestedKey × Addr × V)} {ps : List (PV × PV)}, EReps G H es ps → ∀ x ∈ es, (nestedKind X.prog X.w).is s.heap x.1 x.2.1
  | _, _, .nil, x, h => by cases h
  | _, _, .cons r n d s' b t, x, h => by
    rcases List.mem_cons.mp h with rfl | h
    · rw [hk] at r
      exact ⟨nested_of I r n rfl, d⟩
    · exact t.is I hk x h
theorem dct_at (I : Inv X pins σ H s) (hk : G.k = X.kx) {d : Addr} {ents : List (NestedKey × Addr × V)} {ps : List (PV × PV)} (e : H d = some (dO X.kx d ents)) (r : EReps G H ents ps) :
    ∃ xs, EntsAt ents xs ∧ s.heap.DictOfH (nestedKind X.prog X.w) d xs ∧ (d == sysModules) = false := by
  obtain ⟨⟨o, es, ep, h1, h2, h3, xs, h4, h5, h6, h7, h8⟩, _, _⟩ := I.hok d _ e
  refine ⟨xs, ⟨h4, h5⟩, ⟨o, es, ep, h1, h2, h3, h6, fun x hx => ?_, h7⟩, h8⟩
  have hm : (x.1, x.2.1) ∈ ents.map (fun x => (x.1, x.2.1)) := by rw [← h4]; exact List.mem_map.mpr ⟨x, hx, rfl⟩
  obtain ⟨y, hy, ey⟩ := List.mem_map.mp hm
  have := r.is I hk y hy
  injection ey with e1 e2
  rw [← e1, ← e2]
  exact this
theorem sameK_of {k k' : NestedKey} {x y : PV} (h : x.nk = some k') : sameK k (x, y) = decide (k' = k) := by
  unfold sameK
  simp only [h]
  exact (NestedKey.decide_eq k' k).symm
/-- what is looked up -/
theorem look_at {K : KX} (hk : G.k = K) : ∀ {es : List (NestedKey × Addr × V)} {ps : List (PV × PV)} {xs : List (NestedKey × Addr × Value)} (k : NestedKey), EReps G H es ps → EntsAt es xs →
    match dLook ps k with
    | some y => ∃ p v, atKey xs k = some p ∧ RelV v p.2 ∧ Rep K G H v y
    | none => atKey xs k = none
  | _, _, [], k, .nil, a => rfl
  | _, _, x :: xs, k, .nil, a => by have := a.k; simp at this
  | _, _, [], k, .cons r n d s' b t, a => by have := a.k; simp at this
  | (k', a', v') :: es, (x', y') :: ps, (k2, a2, u2) :: xs, k, .cons r n d s' b t, a => by
    have h1 := a.k
    have h2 := a.v
    simp only [List.map_cons, List.cons.injEq, Prod.mk.injEq] at h1 h2
    obtain ⟨⟨rfl, rfl⟩, h1⟩ := h1
    cases h2 with
    | cons r2 t2 =>
      have ih := look_at (K := K) hk (xs := xs) k t ⟨h1, t2⟩
      unfold dLook
      rw [List.find?_cons, sameK_of n]
      unfold atKey
      rw [List.find?_cons]
      by_cases hkk : k2 = k
      · rw [decide_eq_true hkk]
        exact ⟨_, v', rfl, r2, by rw [← hk]; exact s'⟩
      · rw [decide_eq_false hkk]
        exact ih
theorem look_some {K : KX} (hk : G.k = K) {es : List (NestedKey × Addr × V)} {ps : List (PV × PV)} {xs : List (NestedKey × Addr × Value)} (k : NestedKey) (r : EReps G H es ps) (a : EntsAt es xs) : (dLook ps k).isSome = (atKey xs k).isSome := by
  have := look_at hk k r a
  cases h : dLook ps k with
  | none => rw [h] at this; simp only at this; rw [this]; rfl
  | some y => rw [h] at this; obtain ⟨p, v, e, _⟩ := this; rw [e]; rfl
theorem nk_room (hu : A.units + 130 < cLine) : (nestedKind X.prog X.w).room A.in1 := by
  show A.units + 1 + 8 < cLine
  omega
/-- the entries with one more stored -/
def eStored (es : List (NestedKey × Addr × V)) (k : NestedKey) (a : Addr) (v : V) : List (NestedKey × Addr × V) := if es.any (fun x => decide (x.1 = k)) then es.map (fun x => if x.1 = k then (x.1, x.2.1, v) else x) else es ++ [(k, a, v)]
theorem any_at : ∀ {es : List (NestedKey × Addr × V)} {xs : List (NestedKey × Addr × Value)} {k : NestedKey}, EntsAt es xs → es.any (fun x => decide (x.1 = k)) = (atKey xs k).isSome
  | [], [], k, _ => rfl
  | [], x :: xs, k, a => by have := a.k; simp at this
  | e :: es, [], k, a => by have := a.k; simp at this
  | (k', a', v') :: es, (k2, a2, u2) :: xs, k, a => by
    have h1 := a.k
    have h2 := a.v
    simp only [List.map_cons, List.cons.injEq, Prod.mk.injEq] at h1 h2
    obtain ⟨⟨rfl, rfl⟩, h1⟩ := h1
    cases h2 with
    | cons r2 t2 =>
      have ih := any_at (k := k) (⟨h1, t2⟩ : EntsAt es xs)
      rw [List.any_cons, ih]
      unfold atKey
      rw [List.find?_cons]
      by_cases hkk : k2 = k
      · simp [hkk]
      · simp [hkk]
theorem ents_map : ∀ {es : List (NestedKey × Addr × V)} {xs : List (NestedKey × Addr × Value)} {k : NestedKey} {v : V} {u : Value}, EntsAt es xs → RelV v u → EntsAt (es.map (fun x => if x.1 = k then (x.1, x.2.1, v) else x)) (xs.map (putAt k u))
  | [], [], k, v, u, _, _ => ⟨rfl, .nil⟩
  | [], x :: xs, k, v, u, a, _ => by have := a.k; simp at this
  | e :: es, [], k, v, u, a, _ => by have := a.k; simp at this
  | (k', a', v') :: es, (k2, a2, u2) :: xs, k, v, u, a, rv => by
    have h1 := a.k
    have h2 := a.v
    simp only [List.map_cons, List.cons.injEq, Prod.mk.injEq] at h1 h2
    obtain ⟨⟨rfl, rfl⟩, h1⟩ := h1
    cases h2 with
    | cons r2 t2 =>
      obtain ⟨i1, i2⟩ := ents_map (k := k) (⟨h1, t2⟩ : EntsAt es xs) rv
      refine ⟨?_, ?_⟩
      · simp only [List.map_cons, List.cons.injEq]
        refine ⟨?_, i1⟩
        unfold putAt
        by_cases hkk : k2 = k <;> simp [hkk]
      · simp only [List.map_cons]
        refine .cons ?_ i2
        unfold putAt
        by_cases hkk : k2 = k
        · simp [hkk]; exact rv
        · simp [hkk]; exact r2
theorem ents_stored {es : List (NestedKey × Addr × V)} {xs : List (NestedKey × Addr × Value)} {k : NestedKey} {a : Addr} {v : V} {u : Value} (h : EntsAt es xs) (rv : RelV v u) : EntsAt (eStored es k a v) (storedH xs k a u) := by
  unfold eStored storedH
  rw [any_at h]
  split
  · exact ents_map h rv
  · refine ⟨by simp [h.k], ?_⟩
    simp only [List.map_append, List.map_cons, List.map_nil]
    exact h.v.append (.cons rv .nil)
theorem ereps_any : ∀ {es : List (NestedKey × Addr × V)} {ps : List (PV × PV)} {k : NestedKey}, EReps G H es ps → es.any (fun x => decide (x.1 = k)) = ps.any (sameK k)
  | _, _, k, .nil => rfl
  | _, _, k, .cons r n d s' b t => by
    rw [List.any_cons, List.any_cons, sameK_of n, ereps_any t]
theorem ereps_map {v : V} {y : PV} (rv : Rep G.k G H v y) (hy : y.oLt 0 = true) : ∀ {es : List (NestedKey × Addr × V)} {ps : List (PV × PV)} {k : NestedKey}, EReps G H es ps → EReps G H (es.map (fun x => if x.1 = k then (x.1, x.2.1, v) else x)) (ps.map (fun p => if sameK k p then (p.1, y) else p))
  | _, _, k, .nil => .nil
  | (k2, _, _) :: _, _, k, .cons r n d s' b t => by
    simp only [List.map_cons]
    rw [sameK_of n]
    by_cases hkk : k2 = k
    · rw [if_pos hkk, if_pos (decide_eq_true hkk)]
      exact .cons r n d rv hy (ereps_map rv hy t)
    · rw [if_neg hkk, if_neg (by simpa using hkk)]
      exact .cons r n d s' b (ereps_map rv hy t)
theorem EReps.append : ∀ {es es2 : List (NestedKey × Addr × V)} {ps ps2 : List (PV × PV)}, EReps G H es ps → EReps G H es2 ps2 → EReps G H (es ++ es2) (ps ++ ps2)
  | _, _, _, _, .nil, h => h
  | _, _, _, _, .cons r n d s' b t, h => .cons r n d s' b (t.append h)
theorem ereps_stored {v : V} {x y : PV} {a : Addr} {k : NestedKey} (rx : Rep G.k G H (.ref a) x) (hk : x.nk = some k) (hd : k.depth ≤ 8) (rv : Rep G.k G H v y) (hy : y.oLt 0 = true) {es : List (NestedKey × Addr × V)} {ps : List (PV × PV)} (r : EReps G H es ps) : EReps G H (eStored es k a v) (dPut ps k x y) := by
  unfold eStored dPut
  rw [ereps_any r]
  split
  · exact ereps_map rv hy r
  · exact r.append (.cons rx hk hd rv hy .nil)
theorem EReps.len : ∀ {es : List (NestedKey × Addr × V)} {ps : List (PV × PV)}, EReps G H es ps → es.length = ps.length
  | _, _, .nil => rfl
  | _, _, .cons _ _ _ _ _ t => congrArg (· + 1) t.len
theorem EntsAt.len {es : List (NestedKey × Addr × V)} {xs : List (NestedKey × Addr × Value)} (a : EntsAt es xs) : xs.length = es.length := by
  have := congrArg List.length a.k
  simpa using this
end
end GB

/-! GSndD: dicts in terms. -/
namespace GB
open PySem PySem.Spec PyProof.Rows L2
section
variable {ec : Nat → Option Value} {Γ : Gam} {T : Tb}
theorem ObIs.entries {X : Cx} {G : Gh} {H : Hp} {st : S} {k : Nat} {og : OG} {ov : OV} (b : ObIs G H st k og ov) (hk : G.k = X.kx) (hc : ov.c = 2) : H og.a = some (dO X.kx og.a og.es) ∧ EReps G H og.es ov.ps := by
  have := b.dct hc
  rw [hk] at this
  exact this.2
/-- x in d, x not in d -/
theorem pc_dinG {X : Cx} {ty td : TE} {i o : Expr} (neg : Bool) (hu : X.A.units + 130 < cLine) (hi : PE X i ty) (ho : PE X o td) : PC X (copOf (if neg then .notin else .isin)) i o (fun σ H Q => ty σ H fun y H1 => td σ H1 fun x H2 => ∃ G st d ents ps z k, Wr G H2 st ∧ G.k = X.kx ∧ x = .ref d ∧ H2 d = some (dO X.kx d ents) ∧ EReps G H2 ents ps ∧ Rep X.kx G H2 y z ∧ keyOk z = some k ∧ Q (.bl (if neg then !(dLook ps k).isSome else (dLook ps k).isSome)) H2) := by
  refine ⟨fun pins s σ H Q I h => ?_⟩
  refine thn (hi.run pins s σ H _ I h) fun iv s1 ⟨y, H1, I1, ry, q1⟩ => thn (ho.run pins s1 σ H1 _ I1 q1) fun u s2 ⟨x, H2, I2, rx, G, st, d, ents, ps, z, k, w, gk, ex, e, er, rz, kz, q2⟩ => ?_
  subst ex
  obtain rfl : u = Value.ref d := rx
  obtain ⟨xs, a, hm, hd⟩ := dct_at I2 gk e er
  obtain ⟨p, rfl, rfl, ik⟩ := key_is I2 rz kz ry
  rw [look_some gk k er a] at q2
  cases neg with
  | false => exact wpAny_in_heap (nk_room hu) ik hd hm ⟨.bl _, H2, I2.tok _, rfl, q2⟩
  | true => exact wpAny_notIn_heap (nk_room hu) ik hd hm ⟨.bl _, H2, I2.tok _, rfl, q2⟩
theorem pe_dgetG {X : Cx} {ty td : TE} {i o : Expr} {pos : Pos} (hu : X.A.units + 130 < cLine) (ho : PE X o td) (hi : PE X i ty) (hs : NoSl i) : PE X (.Subscript o i pos) (fun σ H Q => td σ H fun x H1 => ty σ H1 fun y H2 => ∃ G st d ents ps z k w, Wr G H2 st ∧ G.k = X.kx ∧ x = .ref d ∧ H2 d = some (dO X.kx d ents) ∧ EReps G H2 ents ps ∧ Rep X.kx G H2 y z ∧ keyOk z = some k ∧ dLook ps k = some w ∧ ∀ v, Rep X.kx G H2 v w → Q v H2) := by
  refine ⟨fun pins s σ H Q I h => ?_⟩
  refine subD_of PySem.F.slot_dict_getitem.lookup hs (thn (ho.run pins s σ H _ I h) fun u s1 ⟨x, H1, I1, rx, q1⟩ => thn (hi.run pins s1 σ H1 _ I1 q1) fun iv s2 ⟨y, H2, I2, ry, G, st, d, ents, ps, z, k, w, wr, gk, ex, e, er, rz, kz, lk, q2⟩ => ?_)
  subst ex
  obtain rfl : u = Value.ref d := rx
  obtain ⟨xs, a, hm, hd⟩ := dct_at I2 gk e er
  obtain ⟨p, rfl, rfl, ik⟩ := key_is I2 rz kz ry
  have la := look_at gk k er a
  rw [lk] at la
  obtain ⟨pr, v, e1, e2, e3⟩ := la
  exact ⟨hm.typeIs, wpAny_getItem_heap (nk_room hu) ik hm e1 ⟨v, H2, I2.tok _, e2, q2 v e3⟩⟩
theorem ps_dputG {X : Cx} {ty td tv : TE} {i o value : Expr} {pos pos' : Pos} (hu : X.A.units + 130 < cLine) (ho : PE X o td) (hi : PE X i ty) (hv : PE X value tv) (hs : swapsWith value (some (.Subscript o i pos')) pos.line X.env = pure false) :
    PS X (.Assign [.Subscript o i pos'] value pos) (fun D σ H => tv σ H fun v H1 => td σ H1 fun x H2 => ty σ H2 fun y H3 => ∃ G d ents ps z k, G.k = X.kx ∧ x = .ref d ∧ H3 d = some (dO X.kx d ents) ∧ EReps G H3 ents ps ∧ ps.length < lim ∧ Rep X.kx G H3 y z ∧ keyOk z = some k ∧ ∀ a, y = .ref a → D.nx σ (upd H3 d (dO X.kx d (eStored ents k a v)))) := by
  refine ⟨fun pins s σ H D I h => ?_⟩
  refine wpAny_Assign_Subscript (thn (hv.run pins s σ H _ I h) fun r s1 ⟨v, H1, I1, rv, q1⟩ => thn (ho.run pins s1 σ H1 _ I1 q1) fun u s2 ⟨x, H2, I2, rx, q2⟩ => thn (hi.run pins s2 σ H2 _ I2 q2) fun iv s3 ⟨y, H3, I3, ry, G, d, ents, ps, z, k, gk, ex, e, er, hl, rz, kz, q3⟩ => ?_) hs
  subst ex
  obtain rfl : u = Value.ref d := rx
  obtain ⟨xs, a, hm, hd⟩ := dct_at I3 gk e er
  obtain ⟨p, rfl, rfl, ik⟩ := key_is I3 rz kz ry
  have hz : xs.length ≤ sizeLine := by rw [a.len, er.len]; exact Nat.le_of_lt (lim_line (Nat.le_of_lt hl))
  refine wpAny_setItem_heap (hsz := hz) (nk_room hu) ik hm fun h' dd' sb => ?_
  obtain ⟨q, es, ep, hq, h2, h3, h4, h5, h6⟩ := dd'
  refine ⟨σ, _, d_write I3 (by rw [e]; exact True.intro) sb ⟨q, hq⟩ ?_, q3 p rfl⟩
  have a' := ents_stored (k := k) (a := p) a rv
  exact ⟨⟨q, es, ep, hq, h2, h3, _, a'.k, a'.v, h4, h6, hd⟩, ⟨q, hq⟩, fun h1 h2' ⟨q1, es1, ep1, c1, c2, c3, c4⟩ kk => ⟨q1, es1, ep1, kk _ c1, c2, c3, c4⟩⟩
/-- {} -/
theorem pe_dnewG {X : Cx} {pos : Pos} : PE X (.Dict [] [] pos) (fun σ H Q => ∀ p, H p = none → Q (.ref p) (upd H p (dO X.kx p []))) := ⟨fun pins s σ H Q I h =>
  wpAny_Dict_empty ⟨.ref s.heap.objs.size, _, I.laid (a := s.heap.objs.size) (o := dO X.kx s.heap.objs.size []) (t' := s.toks) (fun _ _ q => Heap.get?_push_of_some _ q) (Nat.le_refl _)
    ⟨⟨_, #[], 0, Heap.get?_push_size _ rfl, ⟨rfl, rfl, rfl⟩, rfl, [], rfl, .nil, rfl, List.nodup_nil, beq_eq_false_iff_ne.mpr (Ne.symm (Nat.ne_of_lt I.big))⟩, ⟨_, Heap.get?_push_size _ rfl⟩, fun h1 h2' ⟨q1, es1, ep1, c1, c2, c3, c4⟩ kk => ⟨q1, es1, ep1, kk _ c1, c2, c3, c4⟩⟩,
    rfl, h _ (I.hok.fresh (Nat.le_refl _))⟩⟩
theorem wpM_mkD {ps : List (PV × PV)} {s : S} {ok : PV × Bool → S → Prop} {ex : Nat → S → Prop} (h : wpM (mkD ps) s ok ex) : ok (.obj s.ob.length, false) { s with ob := s.ob ++ [⟨2, 0, [], ps⟩] } := h
theorem Pl.mkD {X : Cx} {W : WX} {σ : L2.St} {env : Envi} {G G1 : Gh} {H H1 : Hp} {st st1 : S} {Q : VK} (p1 : Pl X.kx ec W σ env G H st G1 H1 st1) {ps : List (PV × PV)} {es : List (NestedKey × Addr × V)} {d : Addr} (hd : H1 d = none)
    (q : OKE X.kx G H Q (.obj st1.ob.length, false) { st1 with ob := st1.ob ++ [⟨2, 0, [], ps⟩] }) (er : ∀ G2, Gr G1 G2 → EReps G2 (upd H1 d (dO X.kx d es)) es ps) : Q (.ref d) (upd H1 d (dO X.kx d es)) := by
  have kk : ∀ q u, H1 q = some u → upd H1 d (dO X.kx d es) q = some u := fun q u e => by rw [upd_ne (ne_of_none e hd)]; exact e
  have A := p1.a.wr.addO (og := ⟨d, d, 2, 0, [], [], es⟩) (ov := ⟨2, 0, [], ps⟩) kk hd (fun j p us h => by simp at h) (.inr ⟨_, upd_same⟩) ⟨rfl, rfl, .inr rfl, by
    rw [if_pos rfl]
    refine ⟨rfl, ?_, er _ ⟨fun _ h => h, fun _ h => h, rfl, fun j o h => ⟨o, by rw [List.getElem?_append_left (List.getElem?_eq_some_iff.mp h).1]; exact h, rfl, rfl, rfl, Nat.le_refl _, fun _ => rfl⟩⟩⟩
    show upd H1 d _ d = some (dO G1.k d es)
    rw [upd_same, p1.ev.kk]⟩
  have p2 := p1.step A
  refine q _ _ _ p2.a ?_
  unfold ResOk
  rw [if_neg Bool.false_ne_true]
  exact .obj (o := ⟨d, d, 2, 0, [], [], es⟩) p1.ev.kk (by
    show (G1.oo ++ [_])[st1.ob.length]? = _
    rw [← p1.a.wr.ol]
    simp) rfl
theorem sE_dnew : SE ec Γ T .dnew := .plain fun e X W sc csc C hc => by
  have hc : dnewB e = true := hc
  unfold dnewB at hc
  split at hc
  · refine ⟨rfl, PE_imp pe_dnewG fun σ H Q ⟨G, env, st, w, eo, q⟩ p hp => ?_⟩
    unfold evE at q
    exact (Pl.start (ec := ec) (W := W) w eo).mkD hp (wpM_mkD q) fun _ _ => .nil
  · cases hc
theorem dinP_ok {sc : Scope} {neg : Bool} {i : Nat} {e l : Expr} (h : dinP T sc neg i e = some l) : ∃ x p pos, e = .Compare l [copOf (if neg then .notin else .isin)] [.Name x p] pos ∧ varB T sc i x = true := by
  unfold dinP at h
  split at h
  · rename_i l' o' x' p' pos'
    by_cases hh : (copB (if neg then .notin else .isin) o' && varB T sc i x') = true
    · rw [if_pos hh] at h
      cases h
      rw [Bool.and_eq_true] at hh
      rw [copB_ok hh.1]
      exact ⟨_, _, _, rfl, hh.2⟩
    · rw [if_neg hh] at h
      cases h
  · cases h
theorem sE_din {neg : Bool} {m : Ex} {i : Nat} (hm : SE ec Γ T m) : SE ec Γ T (.din neg m i) := fun e X W sc csc C hc => by
  have hc : (match dinP T sc neg i e with | some l => chkE T sc m l | none => false) = true := hc
  split at hc
  case h_2 => cases hc
  rename_i l hl
  have hcm := hc
  clear hc
  obtain ⟨x, p, pos, rfl, h1⟩ := dinP_ok hl
  have key : ∀ {σ : L2.St} {H : Hp} {Q : VK} {G : Gh} {env : Envi} {st : S} {ok : PV × Bool → S → Prop}, Wr G H st → EnvOk X.kx G env σ H → wpM (evE Γ false (.din neg m i) env) st ok (EXC ec W σ G H) → (∀ b st' G' H', After G H st' G' H' → ok (.bl b, false) st' → Q (.bl b) H') →
      TEv X.kx ec Γ W m σ H (fun y H1 => tVar i σ H1 fun x H2 => ∃ G st d ents ps z k, Wr G H2 st ∧ G.k = X.kx ∧ x = .ref d ∧ H2 d = some (dO X.kx d ents) ∧ EReps G H2 ents ps ∧ Rep X.kx G H2 y z ∧ keyOk z = some k ∧ Q (.bl (if neg then !(dLook ps k).isSome else (dLook ps k).isSome)) H2) := fun {σ H Q G env st ok} w eo q kk => by
    unfold evE at q
    refine (Pl.start w eo).bindE q fun r st1 G1 H1 v p1 a1 ro q => ?_
    rw [wpM_bind] at q
    replace q := wp_dctAt p1.a.wr p1.ev q
    obtain ⟨k, og, ov, g1, g2, b, g3, q⟩ := q
    rw [wpM_bind] at q
    replace q := wpM_ofO q
    obtain ⟨nk, e1, q⟩ := q
    obtain ⟨f1, f2⟩ := b.entries p1.ev.kk g3
    have rv : Rep X.kx G1 H1 v r.1 := by
      unfold ResOk at ro
      split at ro
      · obtain ⟨_, _, _, _, z, _⟩ := ro
        rw [z] at e1
        cases e1
      · exact ro
    exact ⟨.ref og.a, g2, G1, st1, og.a, og.es, ov.ps, r.1, nk, p1.a.wr, p1.ev.kk, rfl, f1, f2, rv, e1, kk _ _ _ _ p1.a q⟩
  have mk : ∀ {pos : Pos}, behindInMarks (copOf (if neg then COp.notin else COp.isin)) (Expr.Name x p) = false := fun {_} => by cases neg <;> rfl
  refine ⟨PE_imp (pe_cmp (pc_dinG neg C.hu (hm.pe C hcm) (varB_ok C h1)) (by cases neg <;> rfl)) fun σ H Q ⟨G, env, st, w, eo, q⟩ => ?_, PT_imp (pt_cmp (pc_dinG neg C.hu (hm.pe C hcm) (varB_ok C h1)) (by cases neg <;> rfl)) fun σ H Q ⟨G, env, st, w, eo, q⟩ => ?_⟩
  · exact key w eo q fun b st' G' H' aa o => o G' H' _ aa (by unfold ResOk; rw [if_neg Bool.false_ne_true]; exact .bl b)
  · unfold evalB fstM at q
    rw [wpM_bind] at q
    rw [show evE Γ true (.din neg m i) env = evE Γ false (.din neg m i) env from rfl] at q
    unfold tB
    refine key (Q := fun x H1 => ∃ c, x = V.bl c ∧ Q c H1) w eo q fun b st' G' H' aa o => ?_
    obtain ⟨b', e2, k⟩ := o
    cases e2
    exact ⟨_, rfl, k G' H' aa⟩
theorem keyOk_rep {K : KX} {H0 : Hp} {G : Gh} {H : Hp} {v : V} {r : PV × Bool} {k : NestedKey} (ro : ResOk K H0 G H v r.1 r.2) (e : keyOk r.1 = some k) : Rep K G H v r.1 := by
  unfold ResOk at ro
  split at ro
  · obtain ⟨_, _, _, _, z, _⟩ := ro
    rw [z] at e
    cases e
  · exact ro
theorem dgetP_ok {sc : Scope} {i : Nat} {e l : Expr} (h : dgetP T sc i e = some l) : ∃ x p pos, e = .Subscript (.Name x p) l pos ∧ varB T sc i x = true ∧ notSlice l = true := by
  unfold dgetP at h
  split at h
  · split at h
    · rename_i hh
      cases h
      rw [Bool.and_eq_true] at hh
      exact ⟨_, _, _, rfl, hh.1, hh.2⟩
    · cases h
  · cases h
theorem noSl_of {i : Expr} (h : notSlice i = true) : NoSl i := by
  intro o v
  cases i <;> first | rfl | cases h
theorem sE_dget {m : Ex} {i : Nat} (hm : SE ec Γ T m) : SE ec Γ T (.dget i m) := .plain fun e X W sc csc C hc => by
  have hc : (match dgetP T sc i e with | some l => chkE T sc m l | none => false) = true := hc
  split at hc
  case h_2 => cases hc
  rename_i l hl
  have hcm := hc
  clear hc
  obtain ⟨x, p, pos, rfl, h1, h2⟩ := dgetP_ok hl
  refine ⟨rfl, PE_imp (pe_dgetG C.hu (varB_ok C h1) (hm.pe C hcm) (noSl_of h2)) fun σ H Q ⟨G, env, st, w, eo, q⟩ => ?_⟩
  unfold evE at q
  rw [wpM_bind] at q
  replace q := wp_dctAt w eo q
  obtain ⟨k0, og0, ov0, _, hv0, _, _, q⟩ := q
  refine ⟨_, hv0, (Pl.start w eo).bindE q fun r st1 G1 H1 v p1 a1 ro q => ?_⟩
  rw [wpM_bind] at q
  replace q := wp_dctAt p1.a.wr p1.ev q
  obtain ⟨k, og, ov, g1, g2, b, g3, q⟩ := q
  rw [wpM_bind] at q
  replace q := wpM_ofO q
  obtain ⟨nk, e1, q⟩ := q
  replace q := wpM_ofO q
  obtain ⟨z, e2, q⟩ := q
  split at e2
  · rename_i y hy
    cases e2
    obtain ⟨f1, f2⟩ := b.entries p1.ev.kk g3
    have hg : V.ref og0.a = V.ref og.a := by rw [hv0] at g2; exact Option.some.inj (Option.some.inj g2)
    exact ⟨G1, st1, og.a, og.es, ov.ps, r.1, nk, y, p1.a.wr, p1.ev.kk, hg, f1, f2, keyOk_rep ro e1, e1, hy, fun v rv => p1.val q rv⟩
  · cases e2
theorem call_lenDG {X : Cx} : CallR X (.builtin "len") (fun vs H Q => ∃ (G : Gh) (d : Addr) (ents : List (NestedKey × Addr × V)) (ps : List (PV × PV)), vs = [.ref d] ∧ G.k = X.kx ∧ H d = some (dO X.kx d ents) ∧ EReps G H ents ps ∧ ps.length ≤ lim ∧ Q (.int ps.length) H) := by
  intro pins s σ H vs us Q I rs ⟨G, d, ents, ps, ev, gk, e, er, hl, q⟩
  subst ev
  cases rs with
  | cons r t =>
    cases t
    cases r
    obtain ⟨xs, a, hm, hd⟩ := dct_at I gk e er
    have hm' : s.heap.DictKeyed (nestedKind X.prog X.w) d (pairsH xs) := ⟨xs, hm, rfl⟩
    have el : (pairsH xs).length = ps.length := by rw [pairsH_length, a.len, er.len]
    have hz := lim_line hl
    rw [sizeLine_eq] at hz
    refine PyProof.Rows.call_len_slot (n := ((pairsH xs).length : Int)) hm'.typeIs PySem.F.slot_dict_len (fun Q' hq => len_keyed hd hm' hq) (by omega) (by rw [el]; omega) ?_
    exact ⟨.int ps.length, H, (I.tok _).tok _, ⟨_, by rw [el]⟩, q⟩
theorem dlenB_ok {sc : Scope} {g0 : Str} {i : Nat} {e : Expr} (h : dlenB T sc g0 i e = true) : ∃ x p gp pos, e = .Call (.Name g0 gp) [.Name x p] [] pos ∧ glB sc g0 = true ∧ varB T sc i x = true := by
  unfold dlenB at h
  split at h
  · rw [Bool.and_eq_true, Bool.and_eq_true] at h
    obtain ⟨⟨h1, h2⟩, h3⟩ := h
    have h1 := of_decide_eq_true h1
    subst h1
    exact ⟨_, _, _, _, rfl, h2, h3⟩
  · cases h
theorem sE_dlen {i : Nat} : SE ec Γ T (.dlen i) := .plain fun e X W sc csc C hc => by
  obtain ⟨x, p, gp, pos, rfl, h1, h2⟩ := dlenB_ok (show dlenB T sc "len" i e = true from hc)
  have gl : Gl X "len" := gl_of C h1
  refine ⟨rfl, PE_imp (pe_callB call_lenDG gl (C.bn "len" (by decide +kernel)) PySem.boot_len (pa_cons (varB_ok C h2) pa_nil)) fun σ H Q ⟨G, env, st, w, eo, q⟩ => ?_⟩
  unfold evE at q
  rw [wpM_bind] at q
  replace q := wp_dctAt w eo q
  obtain ⟨k, og, ov, g1, g2, b, g3, q⟩ := q
  split at q
  · rename_i hl
    obtain ⟨f1, f2⟩ := b.entries eo.kk g3
    exact ⟨_, g2, G, og.a, og.es, ov.ps, rfl, eo.kk, f1, f2, hl, (Pl.start (ec := ec) (W := W) w eo).val q (.int _)⟩
  · exact q.elim
theorem doneP_ok {e a b : Expr} (h : doneP e = some (a, b)) : ∃ pos, e = .Dict [some a] [b] pos := by
  unfold doneP at h
  split at h
  · cases h
    exact ⟨_, rfl⟩
  · cases h
theorem pe_doneG {X : Cx} {tk tv : TE} {a b : Expr} {pos : Pos} (hu : X.A.units + 130 < cLine) (hk : PE X a tk) (hv : PE X b tv) : PE X (.Dict [some a] [b] pos) (fun σ H Q => ∀ p, H p = none → tk σ (upd H p (dO X.kx p [])) fun y H1 => tv σ H1 fun v H2 =>
    ∃ y' v', ([(y, v)] : List (V × V)) = [(y', v')] ∧ H2 p = some (dO X.kx p []) ∧ ∃ G z k, Rep X.kx G H2 y' z ∧ keyOk z = some k ∧ ∀ a, y' = .ref a → Q (.ref p) (upd H2 p (dO X.kx p [(k, a, v')]))) := by
  refine ⟨fun pins s σ H Q I q => ?_⟩
  have hn := I.hok.fresh (Nat.le_refl s.heap.objs.size)
  have hsm : (s.heap.objs.size == sysModules) = false := beq_eq_false_iff_ne.mpr (Ne.symm (Nat.ne_of_lt I.big))
  have I1 := I.laid (a := s.heap.objs.size) (o := dO X.kx s.heap.objs.size []) (h' := s.heap.push { cls := .type "dict", data := .dict #[] }) (t' := s.toks) (fun _ _ q => Heap.get?_push_of_some _ q) (Nat.le_refl _)
    ⟨⟨_, #[], 0, Heap.get?_push_size _ rfl, ⟨rfl, rfl, rfl⟩, rfl, [], rfl, .nil, rfl, List.nodup_nil, hsm⟩, ⟨_, Heap.get?_push_size _ rfl⟩, fun h1 h2' ⟨q1, es1, ep1, c1, c2, c3, c4⟩ kk => ⟨q1, es1, ep1, kk _ c1, c2, c3, c4⟩⟩
  have P : PPs X pos [some a] [b] [(tk, tv)] := pps_cons hk hv pps_nil
  have hl : (pairTrees [some a] [b] X.env pos).length = 1 := pairTrees_length _ _ _ _ rfl rfl
  rw [arm_eval_Dict, zip_pairTrees [some a] [b] X.env pos rfl rfl, dictDisplay_pairs (pairTrees [some a] [b] X.env pos) (fun z => by rw [z] at hl; cases hl) (by rw [hl]; decide)]
  refine wpAny_bind (wpAny_standAt (wpAny_bind (wpAny_subDictH (knd := nestedKind X.prog X.w) (Q := fun d s' => wpAny (model X.prog X.w) X.A (pure (Value.ref d)) (EP X pins σ Q) X.xe s') (show X.A.units + 8 < cLine by omega) (by rw [hl]; decide)
    (thn (P.run pins _ σ _ (fun ps H2 => ∃ y v, ps = [(y, v)] ∧ H2 s.heap.objs.size = some (dO X.kx s.heap.objs.size []) ∧ ∃ G z k, Rep X.kx G H2 y z ∧ keyOk z = some k ∧ ∀ a, y = .ref a → Q (.ref s.heap.objs.size) (upd H2 s.heap.objs.size (dO X.kx s.heap.objs.size [(k, a, v)]))) I1 ?_) fun ws s2 ⟨ps, H2, I2, rel, y, v, ep, e, G, z, k, rz, kz, q2⟩ => ?_))))
  · exact q _ hn
  · subst ep
    cases rel with
    | @cons p1 w1 ps1 ws1 h t =>
      cases t
      obtain ⟨wk, wv⟩ := w1
      obtain ⟨p, rfl, e2, ik⟩ := key_is I2 rz kz h.1
      have e2 : wk = .ref p := e2
      subst e2
      obtain ⟨xs, a0, hm, hd⟩ := dct_at (G := ⟨fun _ => False, none, X.kx, [], fun _ => False⟩) I2 rfl e .nil
      have ex : xs = [] := List.length_eq_zero_iff.mp a0.len
      subst ex
      refine ⟨[(k, p, wv)], ⟨rfl, rfl, ik, trivial⟩, hm, fun h' tk' dd' sb => wpAny_pure ?_⟩
      obtain ⟨q1, es, ep, hq, h2, h3, h4, h5, h6⟩ := dd'
      refine ⟨.ref s.heap.objs.size, _, d_write I2 (by rw [e]; exact True.intro) sb ⟨q1, hq⟩ ?_, rfl, q2 p rfl⟩
      exact ⟨⟨q1, es, ep, hq, h2, h3, [(k, p, wv)], rfl, .cons h.2 .nil, h4, h6, hd⟩, ⟨q1, hq⟩, fun h1 h2' ⟨q1, es1, ep1, c1, c2, c3, c4⟩ kk => ⟨q1, es1, ep1, kk _ c1, c2, c3, c4⟩⟩
theorem wpM_oneD {k : Nat} {p : PV × PV} {s : S} {ok : PV × Bool → S → Prop} {ex : Nat → S → Prop} (h : wpM (oneD k p) s ok ex) : unv s k = some 0 ∧ ok (.obj k, false) { s with ob := s.ob.set k ⟨2, 1, [], [p]⟩ } := by
  unfold wpM oneD at h
  by_cases hc : unv s k = some 0
  · rw [if_pos hc] at h
    exact ⟨hc, h⟩
  · rw [if_neg hc] at h
    exact h.elim
theorem sE_done {a b : Ex} (ha : SE ec Γ T a) (hb : SE ec Γ T b) : SE ec Γ T (.done a b) := .plain fun e X W sc csc C hc => by
  have hc : (match doneP e with | some (x, y) => chkE T sc a x && chkE T sc b y | none => false) = true := hc
  split at hc
  case h_2 => cases hc
  rename_i x y hl
  have hcm := hc
  clear hc
  rw [Bool.and_eq_true] at hcm
  obtain ⟨pos, rfl⟩ := doneP_ok hl
  refine ⟨rfl, PE_imp (pe_doneG C.hu (ha.pe C hcm.1) (hb.pe C hcm.2)) fun σ H Q ⟨G, env, st, w, eo, q⟩ d hd => ?_⟩
  unfold evE at q
  have kk : ∀ q u, H q = some u → upd H d (dO X.kx d []) q = some u := fun q u e => by rw [upd_ne (ne_of_none e hd)]; exact e
  have A := w.addO (og := ⟨d, d, 2, 0, [], [], []⟩) (ov := ⟨2, 0, [], []⟩) kk hd (fun j p us h => by simp at h) (.inr ⟨_, upd_same⟩) ⟨rfl, rfl, .inr rfl, by
    rw [if_pos rfl]
    refine ⟨rfl, ?_, .nil⟩
    show upd H d _ d = some (dO G.k d [])
    rw [upd_same, eo.kk]⟩
  have p0 := (Pl.start (ec := ec) (W := W) w eo).step A
  have hg0 : (G.oo ++ [(⟨d, d, 2, 0, [], [], []⟩ : OG)])[st.ob.length]? = some ⟨d, d, 2, 0, [], [], []⟩ := by rw [← w.ol]; simp
  refine p0.bindE q fun r1 st1 G1 H1 v1 p1 a1 ro1 q => ?_
  refine p1.bindE q fun r2 st2 G2 H2 v2 p2 a2 ro2 q => ?_
  rw [wpM_bind] at q
  replace q := wpM_ofO q
  obtain ⟨nk, e1, q⟩ := q
  obtain ⟨e2, e3⟩ := keyOk_nk e1
  split at q
  case isFalse => exact q.elim
  rename_i ho
  obtain ⟨hv, q⟩ := wpM_oneD q
  obtain ⟨o', f1, f2, f3, f4, f5, f6⟩ := (a1.le.o.trans a2.le.o) st.ob.length _ hg0
  obtain ⟨ov, g1, g2⟩ : ∃ ov, st2.ob[st.ob.length]? = some ov ∧ ov.v = 0 := by
    unfold unv at hv
    cases h : st2.ob[st.ob.length]? with
    | none => rw [h] at hv; cases hv
    | some ov => rw [h] at hv; exact ⟨ov, rfl, by simpa using hv⟩
  have ok := p2.a.wr.ob _ _ _ f1 g1
  have eo' := f6 (by rw [ok.v, g2])
  subst eo'
  have B : ObIs G2 H2 st2 st.ob.length ⟨d, d, 2, 0, [], [], []⟩ ov := ⟨f1, g1, ok⟩
  have hoc : ov.c = 2 := by rw [← ok.c]
  obtain ⟨h1, h2⟩ := B.entries p2.ev.kk hoc
  obtain ⟨G3, a3, r3, _, _⟩ := a2.freeze ro2
  have rk := keyOk_rep ro1 e1
  have p3 := p1.step a3
  have B3 : ObIs G3 H2 st2 st.ob.length ⟨d, d, 2, 0, [], [], []⟩ ov := by
    obtain ⟨o3, k1, k2, k3, k4, k5, k6⟩ := (a1.le.o.trans a3.le.o) st.ob.length _ hg0
    have ok3 := p3.a.wr.ob _ _ _ k1 g1
    have := k6 (by rw [ok3.v, g2])
    subst this
    exact ⟨k1, g1, ok3⟩
  refine ⟨v1, v2, rfl, h1, G3, r1.1, nk, rk.mono p1.a.wr a3.le a3.keep, e1, fun a ea => ?_⟩
  subst ea
  have kk2 : ∀ q u, q ≠ d → H2 q = some u → upd H2 d (dO X.kx d [(nk, a, v2)]) q = some u := fun q u n e => by rw [upd_ne n]; exact e
  have rk3 := rk.mono p1.a.wr a3.le a3.keep
  obtain ⟨G4, c1, c2, c3⟩ := p3.a.wr.chgA (og' := ⟨d, d, 2, 1, [], [], [(nk, a, v2)]⟩) (ov' := ⟨2, 1, [], [(r1.1, r2.1)]⟩) B3 rfl rfl rfl rfl d (.inl rfl) kk2 (.inr (.inr ⟨_, upd_same⟩)) (fun i p us h => by simp at h)
    (fun G' g kl om => ⟨rfl, rfl, om _ B3.ok.oma, by
      rw [if_pos rfl]
      refine ⟨rfl, ?_, .cons (by rw [g.k, p3.ev.kk]; exact rk3.gr g kl) e2 e3 (by rw [g.k, p3.ev.kk]; exact r3.gr g kl) ho .nil⟩
      show upd H2 d _ d = some (dO G'.k d _)
      rw [upd_same, g.k, p3.ev.kk]⟩)
  have p4 := p3.step c1
  refine q _ _ _ p4.a ?_
  unfold ResOk
  rw [if_neg Bool.false_ne_true]
  obtain ⟨o4, k1, k2, _⟩ := c1.le.o _ _ B3.g
  exact .obj p4.ev.kk k1 k2
end
end GB

/-! GMet: methods of lists in terms. -/
namespace GB
open PySem PySem.Spec PyProof.Rows L2
section
variable {X : Cx}
def rIndexP (K : KX) : V → List V → Hp → VK → Prop := fun x vs H Q => ∃ G st px ks k, Wr G H st ∧ WRep K G H x (.lst px) ∧ vs = [V.int k] ∧ intsOf px = some ks ∧ k ∈ ks ∧ ks.length ≤ sizeLine ∧ Q (.int (ks.idxOf k : Nat)) H
theorem WRep.lstAt {K : KX} {G : Gh} {H : Hp} {v : V} {xs : List PV} (h : WRep K G H v (.lst xs)) : ∃ p vs, v = .ref p ∧ H p = some (.lst vs) ∧ Reps K G H vs xs := by
  cases h with
  | rep r => cases r with
    | lst _ e r => exact ⟨_, _, rfl, e, r⟩
  | lst _ e r => exact ⟨_, _, rfl, e, r⟩
theorem mt_indexP : MtM X "list.index" (rIndexP X.kx) := by
  intro pins s σ H x vs v us Q I rx rv h
  obtain ⟨G, st, px, ks, k, w, wx, rfl, e1, hk, hz, q⟩ := h
  obtain ⟨p, ws, rfl, hH, r⟩ := wx.lstAt
  cases rx
  obtain ⟨u, rfl, ru⟩ := rv.one
  obtain ⟨t, rfl⟩ := ru
  obtain ⟨z, its, n, rr, hl, e⟩ := I.lstM hH
  exact SeqAt.list_index_ints (vs := its) ⟨_, e, rfl, n, rfl⟩ (ints_at r e1 rr) hz hk ⟨.int (ks.idxOf k : Nat), H, I.kept (t' := s.toks + 1) fun _ _ z => z, ⟨_, rfl⟩, q⟩
end
section
variable {ec : Nat → Option Value} {Γ : Gam} {T : Tb}
theorem idxB_ok {sc : Scope} {m : Nat} {o : Ex} {e v : Expr} (h : idxB T sc m o e = some v) : ∃ i x p ap cp, o = .var i ∧ m = 2 ∧ e = .Call (.Attribute (.Name x p) "index" ap) [v] [] cp ∧ T.N[i]? = some x ∧ visB sc x = true ∧ okName x = true ∧ (ap.endLine == cp.line) = true ∧ notStar v = true := by
  unfold idxB at h
  split at h
  · split at h
    · split at h
      · rename_i hh
        cases h
        simp only [Bool.and_eq_true] at hh
        obtain ⟨⟨⟨⟨⟨⟨h1, h2⟩, h3⟩, h4⟩, h5⟩, h6⟩, h7⟩ := hh
        have h5 := of_decide_eq_true h5
        subst h5
        exact ⟨_, _, _, _, _, rfl, by simpa using h1, rfl, of_decide_eq_true h2, h3, h4, h6, h7⟩
      · cases h
    · cases h
  · cases h
theorem few1' {v : Expr} {env : PySem.Env} {cp : Pos} (h : notStar v = true) : ((backTo cp (starEach [v] env)).all (fun x => !x.1) && (backToKw cp (keywordEach [] env)).all (fun x => x.1.isSome)
      && decide ([v].length + ([] : List Keyword).length + (if ([] : List Keyword).isEmpty then 0 else 1) < 30)) = true := by
  rw [star_cons h]
  rfl
theorem sE_meth {m : Nat} {o : Ex} {es : Exs} (ho : SE ec Γ T o) (hs : SEs ec Γ T es) : SE ec Γ T (.meth m o es) := .plain fun e X W sc csc C hc => by
  have hc : (match idxB T sc m o e with | some v => chkEs T sc es [v] | none => false) = true := hc
  split at hc
  case h_2 => cases hc
  rename_i v hv
  have R := hs [v] X W sc csc C hc
  clear hc
  obtain ⟨i, x, p, ap, cp, rfl, rfl, rfl, h2, h3, h4, h5, h6⟩ := idxB_ok hv
  refine ⟨rfl, PE_imp (pe_bm PySem.F.plainAttrs_list PySem.F.slot_list_index PySem.F.type_list_index mt_indexP (pe_varB (ec := ec) (Γ := Γ) (W := W) (by rw [C.hN]; exact h2) (by rw [C.hsc]; exact visB_ok h3) (okName_ok h4)) R.b rfl (few1' h6) h5 (star_cons h6) rfl) fun σ H Q ⟨G, env, st, w, eo, q⟩ => ?_⟩
  unfold evE at q
  refine (Pl.start w eo).bindB q fun y st1 G1 H1 u p1 a1 ru q => ?_
  rw [wpM_bind] at q
  replace q := wpM_ofO q
  obtain ⟨_, e1, q⟩ := q
  unfold methOk at e1
  split at e1 <;> first | (rename_i hm; exact absurd hm (by decide)) | skip
  all_goals try contradiction
  rename_i px _
  obtain ⟨pp, ws, e2, hH, r⟩ := ru.lstAt
  refine ⟨by rw [e2]; exact .inl ⟨rfl, ws, .inl (.inl hH)⟩, p1.bindAb q fun xs st2 G2 H2 vs p2 a2 rs q => ?_⟩
  replace q := wpM_ofO q
  obtain ⟨z, e3, q⟩ := q
  have e3 : methop 2 (.lst px) xs = some z := e3
  match xs, rs, e3 with
  | [.int k], rs, e3 =>
    have e3 : (match intsOf px with | some ns => if ns.contains k && decide (ns.length ≤ lim) then some (PV.int (ns.idxOf k : Nat), false) else none | none => none) = some z := e3
    split at e3
    case h_2 => cases e3
    rename_i ns hn
    split at e3
    case isFalse => cases e3
    rename_i hh
    rw [Bool.and_eq_true] at hh
    cases e3
    obtain ⟨u1, rfl, wx⟩ := wreps1 rs
    rw [wx.int]
    exact ⟨G2, st2, px, ns, k, p2.a.wr, ru.mono p1.a.wr a2.le a2.keep, rfl, hn, by simpa using hh.1, Nat.le_of_lt (lim_line (of_decide_eq_true hh.2)), p2.val q (.int _)⟩
end
end GB

/-! GRev: slices that go back. -/
namespace GB
open PySem PySem.Spec PyProof.Rows L2
/-- how many -/
def rvN (h : Option Nat) (n : Nat) : Nat := match h with
  | none => n
  | some k => min (k + 1) n
theorem revTake_eq {α : Type} (h : Option Nat) (xs : List α) : revTake h xs = (xs.take (rvN h xs.length)).reverse := by
  cases h with
  | none => unfold revTake rvN; rw [List.take_length]
  | some k =>
    show (xs.take (k + 1)).reverse = (xs.take (min (k + 1) xs.length)).reverse
    congr 1
    rcases Nat.le_total (k + 1) xs.length with h | h
    · rw [Nat.min_eq_left h]
    · rw [Nat.min_eq_right h, List.take_length, List.take_of_length_le h]
theorem rvN_le (h : Option Nat) (n : Nat) : rvN h n ≤ n := by
  cases h with
  | none => exact Nat.le_refl _
  | some k => exact Nat.min_le_right _ _
def rvI (h : Option Nat) : Option Int := h.map fun k => (k : Int)
theorem rev_adjust (h : Option Nat) (n : Nat) : Builtin.Slice.sliceAdjust (rvI h) none (-1) (n : Int) = (((rvN h n : Nat) : Int) - 1, -1) := by
  have h1 : ((-1 : Int) < 0) := by omega
  unfold Builtin.Slice.sliceAdjust
  simp only [h1, if_true]
  refine Prod.ext ?_ rfl
  cases h with
  | none => rfl
  | some k =>
    show (if (k : Int) < 0 then max ((k : Int) + n) (-1) else min (k : Int) ((n : Int) - 1)) = ((min (k + 1) n : Nat) : Int) - 1
    rw [if_neg (by omega)]
    omega
theorem rev_places (k : Nat) : Builtin.Slice.slicePlaces ((k : Int) - 1) (-1) (-1) = k := by
  unfold Builtin.Slice.slicePlaces
  have h1 : ¬ ((-1 : Int) > 0) := by omega
  simp only [h1, if_false]
  rw [show (-(-1 : Int)) = 1 by decide, Int.ediv_one]
  split <;> omega
theorem rev_bounds (h : Option Nat) (n : Nat) : sliceBounds (rvI h) none (some (-1)) n = (((rvN h n : Nat) : Int) - 1, -1, -1) := by
  cases h with
  | none => simp [sliceBounds, rvI, rvN]
  | some k =>
    show ((if (-1 : Int) > 0 then max 0 (min (if (k : Int) < 0 then (k : Int) + n else k) n) else max (-1) (min (if (k : Int) < 0 then (k : Int) + n else k) ((n : Int) - 1))), (if (-1 : Int) > 0 then (n : Int) else -1), (-1 : Int)) = (((min (k + 1) n : Nat) : Int) - 1, -1, -1)
    rw [if_neg (by omega), if_neg (by omega), if_neg (by omega)]
    refine Prod.ext ?_ rfl
    show max (-1) (min (k : Int) ((n : Int) - 1)) = ((min (k + 1) n : Nat) : Int) - 1
    omega
theorem rev_map (xs : List Value) (k : Nat) (hk : k ≤ xs.length) : (List.range k).filterMap (fun m => xs.toArray[k - 1 - m]?) = (xs.take k).reverse := by
  have : (List.range k).filterMap (fun m => xs.toArray[k - 1 - m]?) = ((List.range k).map fun m => k - 1 - m).filterMap (xs.toArray[·]?) := by
    rw [List.filterMap_map]; rfl
  rw [this, PySem.W.krv_range, List.filterMap_reverse]
  congr 1
  have h := pick_run xs.toArray 0 k
  have e : (List.range k).map (0 + ·) = List.range k := by
    rw [show ((0 + ·) : Nat → Nat) = id from funext fun k => Nat.zero_add k, List.map_id]
  rw [e] at h
  rw [h]
  simp
theorem rev_pickT (xs : List Value) (k : Nat) (hk : k ≤ xs.length) : ((List.range k).filterMap fun (m : Nat) => xs.toArray[(((k : Int) - 1) + (m : Int) * (-1)).toNat]?).toArray = (xs.take k).reverse.toArray := by
  rw [← rev_map xs k hk]
  congr 2
  funext m
  have : (((k : Int) - 1) + (m : Int) * (-1)).toNat = k - 1 - m := by omega
  rw [this]
theorem rev_pickL (xs : List Value) (h : Option Nat) : slicePick xs.toArray (rvI h) none (some (-1)) = (xs.take (rvN h xs.length)).reverse.toArray := by
  unfold slicePick
  rw [show xs.toArray.size = xs.length from List.size_toArray, rev_bounds]
  show ((sliceRange (((rvN h xs.length : Nat) : Int) - 1) (-1) (-1)).filterMap (xs.toArray[·]?)).toArray = _
  rw [PySem.W.krv_sliceRange, List.filterMap_map, ← rev_map xs _ (rvN_le h xs.length)]
  rfl
theorem rvI_part {h : Option Nat} {v : Value} (p : IsPart v (rvI h)) : IsPart v (rvI h) := p
section
variable {prog : Program} {w : World} {A : Around} {E : Value → Shared → Prop} {s : Shared}
theorem rev_applied {sl : Addr} {vl : Value} {t : Tok} {h : Option Nat} {n : Nat} {Q : Int × Int × Nat → Shared → Prop} (hs : s.heap.IsSliceOf sl vl .none (.int (-1) t)) (pl : IsPart vl (rvI h))
    (q : Q (((rvN h n : Nat) : Int) - 1, -1, rvN h n) s) : wpAny (model prog w) A (Builtin.Slice.sliceApplied (.ref sl) (pure (n : Int))) Q E s := by
  obtain ⟨os, hos, hcs, hds⟩ := id hs
  unfold Builtin.Slice.sliceApplied Builtin.Slice.sliceFields
  refine wpAny_bind (wpAny_bind (wpAny_field hos hds (x := vl) rfl (wpAny_bind (wpAny_field hos hds (x := .none) rfl (wpAny_bind (wpAny_field hos hds (x := .int (-1) t) rfl (wpAny_pure ?_)))))))
  refine wpAny_bind (HT.slicePart_ (.int (-1) t) ?_)
  show wpAny _ _ (if ((-1 : Int) == 0) = true then _ else _) _ _ s
  rw [if_neg (by decide)]
  refine wpAny_bind (HT.slicePart_ pl (wpAny_bind (HT.slicePart_ .none (wpAny_bind (wpAny_pure ?_)))))
  show wpAny _ _ (match Builtin.Slice.sliceAdjust (rvI h) none (-1) (n : Int) with | (lo, hi) => pure (lo, (-1 : Int), Builtin.Slice.slicePlaces lo hi (-1))) _ _ s
  rw [rev_adjust]
  show wpAny _ _ (pure (((rvN h n : Nat) : Int) - 1, (-1 : Int), Builtin.Slice.slicePlaces (((rvN h n : Nat) : Int) - 1) (-1) (-1))) _ _ s
  rw [rev_places]
  exact wpAny_pure q
theorem getItem_tuple_rev {t sl : Addr} {items : List Value} {vl : Value} {tk : Tok} {h : Option Nat} {Q : Value → Shared → Prop} (ht : IsTup s.heap t items.toArray) (hs : s.heap.IsSliceOf sl vl .none (.int (-1) tk)) (pl : IsPart vl (rvI h))
    (q : Q (.ref s.heap.objs.size) { s with heap := s.heap.push { cls := .type "tuple", data := .seq (items.take (rvN h items.length)).reverse.toArray } })
    (hsz : items.length ≤ sizeLine) : wpAny (model prog w) A (getItem (.ref t) (.ref sl)) Q E s := by
  have htake : sizeOk (.seq (items.take (rvN h items.length)).reverse.toArray) := by
    show (items.take (rvN h items.length)).reverse.toArray.size ≤ sizeLine
    rw [List.size_toArray, List.length_reverse, List.length_take]
    omega
  obtain ⟨os, hos, hcs, hds⟩ := id hs
  have hTs : s.TypeIs (.ref sl) "slice" := ⟨os, hos, hcs⟩
  unfold getItem
  try with_reducible refine wpAny_holding ?_
  first | refine wpAny_bind (wpAny_pure ?_) | skip
  refine wpAny_bind (wpAny_sequenceKey ht.typeIs (by decide) ?_)
  refine wpAny_bind (wpAny_callSpecial?_slot (name := Str.ofString "__getitem__") ht.typeIs PyProof.Rows.slot_tuple_getitem
    (wpAny_call_entry PyProof.Rows.slot_tuple_getitem ht.typeIs entry_tuple_getitem ?_ (args_tuple_getitem _ _)))
  show wpAny _ _ (Builtin.Tuple.tupleItemsOf (.ref t) >>= _) _ _ s
  refine wpAny_bind (PyProof.Rows.tupleItemsOf_ ht ?_)
  refine wpAny_bind (wpAny_typeOf hTs ?_)
  rw [if_pos (by decide)]
  refine wpAny_bind (rev_applied hs pl ?_)
  have hno : ¬ (((((rvN h items.toArray.size : Nat) : Int) - 1) == 0 && (-1 : Int) == 1 && (rvN h items.toArray.size) == items.toArray.size) = true) := by
    intro z
    rw [Bool.and_eq_true, Bool.and_eq_true] at z
    exact absurd z.1.2 (by decide)
  show wpAny _ _ (if ((((rvN h items.toArray.size : Nat) : Int) - 1) == 0 && (-1 : Int) == 1 && (rvN h items.toArray.size) == items.toArray.size) = true then _ else _) _ _ s
  rw [if_neg hno, show items.toArray.size = items.length from List.size_toArray, rev_pickT items _ (rvN_le h _)]
  first
    | exact wpAny_bind (m := Builtin.Tuple.tupleExact _) (wpAny_newObj_type (wpAny_pure ⟨_, rfl, wpAny_pure q⟩) htake)
    | exact wpAny_bind (m := Builtin.Tuple.tupleExact _) (wpAny_newObj_type (wpAny_bind (wpAny_pure (wpAny_pure ⟨_, rfl, wpAny_pure q⟩))) htake)
    | exact wpAny_bind (wpAny_bind (m := Builtin.Tuple.tupleExact _) (wpAny_newObj_type (wpAny_pure (wpAny_pure ⟨_, rfl, wpAny_pure q⟩)) htake))
    | exact wpAny_bind (wpAny_bind (m := Builtin.Tuple.tupleExact _) (wpAny_newObj_type (wpAny_pure ⟨_, rfl, wpAny_pure q⟩) htake))
end
section
variable {X : Cx}
def rRev (K : KX) : Option Nat → V → Hp → VK → Prop := fun h x H Q => ∃ G st px z fr, Wr G H st ∧ WRep K G H x px ∧ revop h px = some (z, fr) ∧ PostV K G H z fr Q
def SlV (X : Cx) (h : Option Nat) (r : V → Hp → VK → Prop) : Prop :=
  ∀ (pins : List (Addr × Obj)) (s : Shared) (σ : L2.St) (H : Hp) (x : V) (v vl : Value) (t : Tok) (sl : Addr) (Q : VK), Inv X pins σ H s → RelV x v → s.heap.IsSliceOf sl vl .none (.int (-1) t) → IsPart vl (rvI h) → r x H Q →
    ∃ T id, typeLookup (.type T) "__getitem__" = pure (some (.builtin id)) ∧ s.TypeIs v T ∧ wpAny (model X.prog X.w) X.A (getItem v (.ref sl)) (EP X pins σ Q) X.xe s
theorem vals_take : ∀ {xs : List V} {us : List Value} (k : Nat), Vals xs us → Vals (xs.take k) (us.take k)
  | _, _, 0, _ => .nil
  | _, _, k + 1, .nil => .nil
  | _, _, k + 1, .cons r t => .cons r (vals_take k t)
theorem vals_rev {xs : List V} {us : List Value} (h : Vals xs us) : Vals xs.reverse us.reverse := by
  induction h with
  | nil => exact .nil
  | cons r t ih => rw [List.reverse_cons, List.reverse_cons]; exact Vals.append ih (.cons r .nil)
theorem reps_rv {K : KX} {G : Gh} {H : Hp} {vs : List V} {xs : List PV} (r : Reps K G H vs xs) (h : Option Nat) : Reps K G H ((vs.take (rvN h vs.length)).reverse) (revTake h xs) := by
  rw [revTake_eq, r.length]
  exact (r.take _).reverse
theorem sl_rev (h : Option Nat) : SlV X h (rRev X.kx h) := by
  intro pins s σ H x v vl t sl Q I rx hs pl q
  obtain ⟨G, st, px, z, fr, w, wx, e, q⟩ := q
  unfold revop at e
  split at e
  · rename_i xs
    cases e
    obtain ⟨p, vs, rfl, h1, r⟩ := wx.tup
    cases rx
    obtain ⟨its, rv, ht, hz⟩ := I.tuple h1
    have hl := rv.length
    refine ⟨"tuple", _, PyProof.Rows.slot_tuple_getitem.lookup, ht.typeIs, ?_⟩
    refine getItem_tuple_rev ht hs pl ?_ (by omega)
    rw [← hl]
    refine ⟨.ref s.heap.objs.size, _, I.laid (t' := s.toks) (o := .tup (vs.take (rvN h vs.length)).reverse) (fun b ob q => Heap.get?_push_of_some _ q) (Nat.le_refl _) ?_, rfl, q.tup w (reps_rv r h) (I.hok.fresh (Nat.le_refl _))⟩
    exact ⟨by rw [List.length_reverse, List.length_take]; omega, _, vals_rev (vals_take _ rv), IsTup.new _ _⟩
  · rename_i xs
    cases e
    obtain ⟨p, vs, rfl, h1, _, r⟩ := wx.lst' w
    cases rx
    obtain ⟨its, rv, ht, hz⟩ := I.list (.inl (.inl h1))
    have hl := rv.length
    refine ⟨"list", _, slot_list_getitem.lookup, ht.isList.typeIs, ?_⟩
    refine wpAny_getItem_list_slice ht.isList hs pl .none (.int (-1) t) (by simp) ?_ (by rw [List.size_toArray] <;> omega)
    rw [rev_pickL, ← hl]
    refine ⟨.ref s.heap.objs.size, _, I.laid (t' := s.toks) (o := .lst (vs.take (rvN h vs.length)).reverse) (fun b ob q => Heap.get?_push_of_some _ q) (Nat.le_refl _) ?_, rfl, q.lst w (reps_rv r h) (I.hok.fresh (Nat.le_refl _))⟩
    exact ⟨by rw [List.length_reverse, List.length_take]; omega, _, 0, vals_rev (vals_take _ rv), Heap.get?_push_size _ rfl⟩
  · cases e
def tRev (r : V → Hp → VK → Prop) (te : TE) : TE := fun σ H Q => te σ H fun x H1 => r x H1 Q
theorem pe_revG {h : Option Nat} {r : V → Hp → VK → Prop} {te : TE} {v u : Expr} {lo : Option Expr} {p2 pos : Pos} (hr : SlV X h r) (he : PE X v te) (hl : PO X lo fun _ H Q => Q (rvI h) H) (hu : PE X u fun _ H Q => Q (.int (-1)) H) :
    PE X (.Subscript v (.Slice lo none (some u) p2) pos) (tRev r te) := by
  refine ⟨fun pins s σ H Q I q => ?_⟩
  refine Subscript_ (thn (he.run pins s σ H _ I q) fun vv s1 ⟨x, H1, I1, r1, q1⟩ => ?_)
  refine wpAny_Slice (thn (hl.run pins s1 σ H1 (fun o H' => o = rvI h ∧ r x H' Q) I1 ⟨rfl, q1⟩) fun vl s2 ⟨o, H2, I2, pl, eo, q2⟩ => ?_)
  subst eo
  rw [evalPart_none]
  refine wpAny_pure ?_
  rw [evalPart_some]
  refine thn (hu.run pins s2 σ H2 (fun y H' => y = .int (-1) ∧ r x H' Q) I2 ⟨rfl, q2⟩) fun uu s3 ⟨y, H3, I3, r3, ey, q3⟩ => ?_
  subst ey
  obtain ⟨t, rfl⟩ := r3
  have I4 : Inv X pins σ H3 { s3 with heap := s3.heap.push { cls := .type "slice", data := .fields #[vl, .none, .int (-1) t] } } := I3.kept (t' := s3.toks) fun b ob q => Heap.get?_push_of_some _ q
  obtain ⟨T, id, hT, ht, hg⟩ := hr pins { s3 with heap := s3.heap.push { cls := .type "slice", data := .fields #[vl, .none, .int (-1) t] } } σ H3 x vv vl t s3.heap.objs.size Q I4 r1 (Heap.IsSliceOf.new ..) pl q3
  show wpAny (model X.prog X.w) X.A (subscriptTail v (.Slice lo none (some u) p2) vv (.ref s3.heap.objs.size)) (EP X pins σ Q) X.xe { s3 with heap := s3.heap.push { cls := .type "slice", data := .fields #[vl, .none, .int (-1) t] } }
  exact tail_any (ops := [vv, .ref s3.heap.objs.size]) ht hT hg (by with_unfolding_all rfl)
end
section
variable {ec : Nat → Option Value} {Γ : Gam} {T : Tb}
theorem revP_ok {h : Option Nat} {e v : Expr} (hh : revP h e = some v) : ∃ l u p2 pos, e = .Subscript v (.Slice l none (some u) p2) pos ∧ oneB u = true ∧ ((h = none ∧ l = none) ∨ ∃ (n : Nat) (k : Nat) (p : Pos), h = some n ∧ l = some (.Constant (.int n) k p)) := by
  unfold revP at hh
  split at hh
  · split at hh
    · rename_i hb
      cases hh
      rw [Bool.and_eq_true] at hb
      refine ⟨_, _, _, _, rfl, hb.1, ?_⟩
      have hb2 := hb.2
      unfold revLo at hb2
      split at hb2
      · exact .inl ⟨rfl, rfl⟩
      · have := of_decide_eq_true hb2
        subst this
        exact .inr ⟨_, _, _, rfl, rfl⟩
      · cases hb2
    · cases hh
  · cases hh
theorem sE_revG {a : Ex} (h : Option Nat) {m : Ex} (ha : SE ec Γ T a) (hm : ∀ env, evE Γ false m env = M.bind (fstM (evE Γ true a env)) fun x => ofO (revop h x)) {e : Expr} {X : Cx} {W : WX} {sc csc : Scope} (C : Ctx ec T.FT T.GT T.MT T.CT Γ X W sc csc T.N) (hc : (match revP h e with | some v => chkE T sc a v | none => false) = true) :
    plainT e = true ∧ PE X e (TEv X.kx ec Γ W m) := by
  split at hc
  case h_2 => cases hc
  rename_i v hv
  have hav := ha.lent C hc
  clear hc
  obtain ⟨l, u, p2, pos, rfl, h1, h2⟩ := revP_ok hv
  obtain ⟨z1, z2, z3, rfl⟩ := oneB_ok h1
  have hlo : PO X l fun _ H Q => Q (rvI h) H := by
    rcases h2 with ⟨rfl, rfl⟩ | ⟨n, k, p, rfl, rfl⟩
    · exact po_none
    · exact ⟨fun pins s σ H Q I q => (po_some pe_int).run pins s σ H Q I ⟨_, rfl, q⟩⟩
  have hst : PE X (.UnaryOp .USub (.Constant (.int 1) z1 z2) z3) fun _ H Q => Q (.int (-1)) H := PE_imp (pe_un un_neg pe_int) fun σ H Q q => ⟨1, rfl, q⟩
  refine ⟨rfl, PE_imp (pe_revG (sl_rev h) hav hlo hst) fun σ H Q ⟨G, env, st, w, eo, q⟩ => ?_⟩
  rw [hm] at q
  refine (Pl.start w eo).bindB q fun x st1 G1 H1 v p1 a1 r1 q => ?_
  replace q := wpM_ofO q
  obtain ⟨z, e1, q⟩ := q
  exact ⟨G1, st1, x, z.1, z.2, p1.a.wr, r1, e1, p1.post q⟩
theorem sE_rev {a : Ex} (ha : SE ec Γ T a) : SE ec Γ T (.rev a) := .plain fun e X W sc csc C hc => sE_revG none ha (fun _ => rfl) C hc
theorem sE_revh {a : Ex} {n : Nat} (ha : SE ec Γ T a) : SE ec Γ T (.revh a n) := .plain fun e X W sc csc C hc => sE_revG (some n) ha (fun _ => rfl) C hc
end
end GB

/-! GSndC: targets and comprehensions; the terms' soundness. -/
namespace GB
open PySem PySem.Spec PyProof.Rows L2
def setA {α : Type} : List (Nat × α) → List (Option α) → List (Option α)
  | [], e => e
  | (i, x) :: r, e => setA r (e.set i (some x))
mutual
def asgP : Tg → PV → Option (List (Nat × PV))
  | .name i, v => some [(i, v)]
  | .tup ts, .tup xs => asgPs ts xs
  | _, _ => none
def asgPs : Tgs → List PV → Option (List (Nat × PV))
  | .nil, [] => some []
  | .cons t ts, x :: xs => match asgP t x, asgPs ts xs with
    | some a, some b => some (a ++ b)
    | _, _ => none
  | _, _ => none
end
def envP (ps : List (Nat × PV)) : List (Nat × (PV × Bool)) := ps.map fun p => (p.1, (p.2, false))
theorem setA_append {α : Type} : ∀ (a b : List (Nat × α)) (e : List (Option α)), setA (a ++ b) e = setA b (setA a e)
  | [], _, _ => rfl
  | (i, x) :: r, b, e => setA_append r b _
theorem setA_length {α : Type} : ∀ (a : List (Nat × α)) (e : List (Option α)), (setA a e).length = e.length
  | [], _ => rfl
  | (i, x) :: r, e => by unfold setA; rw [setA_length r, List.length_set]
theorem setA_out {α : Type} {j : Nat} : ∀ {a : List (Nat × α)} {e : List (Option α)}, j ∉ a.map (·.1) → (setA a e)[j]? = e[j]?
  | [], _, _ => rfl
  | (i, x) :: r, e, h => by
    rw [List.map_cons, List.mem_cons, not_or] at h
    unfold setA
    rw [setA_out h.2, List.getElem?_set_ne (fun z => h.1 z.symm)]
theorem setA_in {α : Type} {j : Nat} : ∀ {a : List (Nat × α)} {e e' : List (Option α)}, e.length = e'.length → j ∈ a.map (·.1) → (setA a e)[j]? = (setA a e')[j]?
  | (i, x) :: r, e, e', hl, h => by
    unfold setA
    by_cases hj : j ∈ r.map (·.1)
    · exact setA_in (by rw [List.length_set, List.length_set, hl]) hj
    · rw [setA_out hj, setA_out hj]
      rw [List.map_cons, List.mem_cons] at h
      rcases h with h | h
      · subst h
        rw [List.getElem?_set, List.getElem?_set, hl]
        simp
      · exact absurd h hj
  | [], _, _, _, h => nomatch h
mutual
theorem asgT_eq : ∀ (t : Tg) (v : PV) (env : Envi), asgT t v env = (asgP t v).map fun ps => setA (envP ps) env
  | .name i, v, env => rfl
  | .tup ts, .tup xs, env => asgTs_eq ts xs env
  | .tup _, .non, _ => rfl
  | .tup _, .bl _, _ => rfl
  | .tup _, .int _, _ => rfl
  | .tup _, .str _, _ => rfl
  | .tup _, .lst _, _ => rfl
  | .tup _, .dct _, _ => rfl
  | .tup _, .cnt, _ => rfl
  | .tup _, .obj _, _ => rfl
  | .tup _, .exc _, _ => rfl
  | .tup _, .scr _, _ => rfl
theorem asgTs_eq : ∀ (t : Tgs) (v : List PV) (env : Envi), asgTs t v env = (asgPs t v).map fun ps => setA (envP ps) env
  | .nil, [], env => rfl
  | .nil, _ :: _, _ => rfl
  | .cons _ _, [], _ => rfl
  | .cons t ts, x :: xs, env => by
    unfold asgTs asgPs
    rw [asgT_eq t x env]
    cases asgP t x with
    | none => rfl
    | some a =>
      show asgTs ts xs (setA (envP a) env) = _
      rw [asgTs_eq ts xs]
      cases asgPs ts xs with
      | none => rfl
      | some b =>
        show some (setA (envP b) (setA (envP a) env)) = some (setA (envP (a ++ b)) env)
        unfold envP
        rw [List.map_append, setA_append]
end
mutual
theorem asgP_vars : ∀ {t : Tg} {v : PV} {ps : List (Nat × PV)}, asgP t v = some ps → ps.map (·.1) = tgVars t
  | .name i, v, ps, h => by cases h; rfl
  | .tup ts, v, ps, h => by
    cases v <;> try exact nomatch (show none = some ps from h)
    exact asgPs_vars (t := ts) h
theorem asgPs_vars : ∀ {t : Tgs} {v : List PV} {ps : List (Nat × PV)}, asgPs t v = some ps → ps.map (·.1) = tgsVars t
  | .nil, [], ps, h => by cases h; rfl
  | .nil, _ :: _, ps, h => nomatch h
  | .cons _ _, [], ps, h => nomatch h
  | .cons t ts, x :: xs, ps, h => by
    unfold asgPs at h
    cases ha : asgP t x with
    | none => rw [ha] at h; cases h
    | some a =>
      cases hb : asgPs ts xs with
      | none => rw [ha, hb] at h; cases h
      | some b =>
        rw [ha, hb] at h
        cases h
        unfold tgsVars
        rw [List.map_append, asgP_vars ha, asgPs_vars hb]
end
/-! ### slots -/
section
variable {K : KX} {G G' : Gh} {H H' : Hp} {st st' : S} {env : Envi} {σ : L2.St}
theorem EnvOk.set (e : EnvOk K G env σ H) {v : V} {x : PV} (i : Nat) (r : Rep K G H v x) : EnvOk K G (env.set i (some (x, false))) (σ.set i (some v)) H := by
  have key : ∀ {j : Nat} {y : PV} {b : Bool}, (env.set i (some (x, false)))[j]? = some (some (y, b)) → (j = i ∧ y = x ∧ b = false ∧ i < env.length) ∨ (j ≠ i ∧ env[j]? = some (some (y, b))) := fun {j y b} h => by
    by_cases hj : i = j
    · subst hj
      rw [List.getElem?_set] at h
      split at h
      · split at h
        · cases h; exact .inl ⟨rfl, rfl, rfl, by assumption⟩
        · cases h
      · rename_i hn; exact absurd rfl hn
    · rw [List.getElem?_set_ne hj] at h
      exact .inr ⟨fun z => hj z.symm, h⟩
  have out : ∀ {j : Nat}, j ≠ i → (σ.set i (some v))[j]? = σ[j]? := fun {j} h => List.getElem?_set_ne fun z => h z.symm
  refine ⟨e.kk, by rw [List.length_set, List.length_set, e.len], fun j y h => ?_, fun j y h => ?_, fun j k y z p hne h1 h2 h3 => ?_⟩
  · rcases key h with ⟨rfl, rfl, _, hl⟩ | ⟨hj, h⟩
    · exact ⟨v, List.getElem?_set_self (by rw [← e.len]; exact hl), r⟩
    · rw [out hj]
      exact e.fz j y h
  · rcases key h with ⟨_, _, hb, _⟩ | ⟨hj, h⟩
    · cases hb
    · rw [out hj]
      exact e.ow j y h
  · rcases key h1 with ⟨_, _, hb, _⟩ | ⟨hj, h1⟩
    · cases hb
    · rcases key h2 with ⟨_, _, hb, _⟩ | ⟨hk, h2⟩
      · cases hb
      · rw [out hj] at h3
        rw [out hk]
        exact e.di j k y z p hne h1 h2 h3
theorem EnvOk.wipe (e : EnvOk K G env σ H) (i : Nat) : EnvOk K G (env.set i none) (σ.set i none) H := by
  have key : ∀ {j : Nat} {y : PV} {b : Bool}, (env.set i none)[j]? = some (some (y, b)) → j ≠ i ∧ env[j]? = some (some (y, b)) := fun {j y b} h => by
    by_cases hj : i = j
    · subst hj
      rw [List.getElem?_set] at h
      split at h
      · split at h
        · cases h
        · cases h
      · rename_i hn; exact absurd rfl hn
    · rw [List.getElem?_set_ne hj] at h
      exact ⟨fun z => hj z.symm, h⟩
  have out : ∀ {j : Nat}, j ≠ i → (σ.set i none)[j]? = σ[j]? := fun {j} h => List.getElem?_set_ne fun z => h z.symm
  refine ⟨e.kk, by rw [List.length_set, List.length_set, e.len], fun j y h => ?_, fun j y h => ?_, fun j k y z p hne h1 h2 h3 => ?_⟩
  · obtain ⟨hj, h⟩ := key h
    rw [out hj]
    exact e.fz j y h
  · obtain ⟨hj, h⟩ := key h
    rw [out hj]
    exact e.ow j y h
  · obtain ⟨hj, h1⟩ := key h1
    obtain ⟨hk, h2⟩ := key h2
    rw [out hj] at h3
    rw [out hk]
    exact e.di j k y z p hne h1 h2 h3
def wipeE (env : Envi) : List Nat → Envi
  | [] => env
  | v :: vs => (wipeE env vs).set v none
theorem EnvOk.wipes (e : EnvOk K G env σ H) : ∀ vs : List Nat, EnvOk K G (wipeE env vs) (L2.wipe σ vs) H
  | [] => e
  | v :: vs => (EnvOk.wipes e vs).wipe v
theorem EnvOk.setA : ∀ {ps : List (Nat × PV)} {us : List V} {env : Envi} {σ : L2.St}, EnvOk K G env σ H → Reps K G H us (ps.map (·.2)) → EnvOk K G (setA (envP ps) env) (setA ((ps.map (·.1)).zip us) σ) H
  | [], _, env, σ, e, .nil => e
  | (i, x) :: ps, _, env, σ, e, .cons r rs => EnvOk.setA (ps := ps) (e.set i r) rs
theorem wipeE_len (env : Envi) : ∀ vs, (wipeE env vs).length = env.length
  | [] => rfl
  | v :: vs => by unfold wipeE; rw [List.length_set, wipeE_len env vs]
theorem wipeE_out {env : Envi} {j : Nat} : ∀ {vs : List Nat}, j ∉ vs → (wipeE env vs)[j]? = env[j]?
  | [], _ => rfl
  | v :: vs, h => by
    rw [List.mem_cons, not_or] at h
    unfold wipeE
    rw [List.getElem?_set_ne (fun z => h.1 z.symm), wipeE_out h.2]
/-- a name wiped first and then stored -/
theorem setA_wipe {ps : List (Nat × PV)} : setA (envP ps) (wipeE env (ps.map (·.1))) = setA (envP ps) env := by
  have e : (envP ps).map (·.1) = ps.map (·.1) := by unfold envP; rw [List.map_map]; rfl
  refine List.ext_getElem? fun j => ?_
  by_cases h : j ∈ ps.map (·.1)
  · exact setA_in (wipeE_len _ _) (by rw [e]; exact h)
  · rw [setA_out (by rw [e]; exact h), setA_out (by rw [e]; exact h), wipeE_out h]
theorem wipe_in {σ : L2.St} {j : Nat} : ∀ {vs : List Nat}, j ∈ vs → j < σ.length → (L2.wipe σ vs)[j]? = some none
  | v :: vs, h, hl => by
    unfold L2.wipe
    by_cases hj : v = j
    · subst hj
      rw [List.getElem?_set_self (by rw [wipe_length]; exact hl)]
    · rw [List.getElem?_set_ne hj]
      rcases List.mem_cons.mp h with h | h
      · exact absurd h.symm hj
      · exact wipe_in h hl
  | [], h, _ => nomatch h
theorem wipe_setA {ps : List (Nat × V)} {vs : List Nat} (h : ∀ i ∈ ps.map (·.1), i ∈ vs) : L2.wipe (GB.setA ps (L2.wipe σ vs)) vs = L2.wipe σ vs := by
  refine List.ext_getElem? fun j => ?_
  by_cases hj : j ∈ vs
  · by_cases hl : j < σ.length
    · rw [wipe_in hj (by rw [setA_length, wipe_length]; exact hl), wipe_in hj hl]
    · rw [List.getElem?_eq_none (by rw [wipe_length, setA_length, wipe_length]; omega), List.getElem?_eq_none (by rw [wipe_length]; omega)]
  · rw [wipe_out hj, setA_out (fun z => hj (h j z))]
end
/-! ### targets -/
def GTv (K : KX) (t : Tg) : TG := fun v σ H Q => ∃ G x ps, Rep K G H v x ∧ asgP t x = some ps ∧ ∀ us, Reps K G H us (ps.map (·.2)) → Q (setA ((ps.map (·.1)).zip us) σ) H
def GTsv (K : KX) (t : Tgs) : TGs := fun vs σ H Q => ∃ G xs ps, Reps K G H vs xs ∧ asgPs t xs = some ps ∧ ∀ us, Reps K G H us (ps.map (·.2)) → Q (setA ((ps.map (·.1)).zip us) σ) H
theorem assignEach_cons {e : Expr} {es : List Expr} {env : PySem.Env} (h : notStar e = true) : assignEach (e :: es) env = (false, assign e env) :: assignEach es env := by
  cases e <;> first | rfl | cases h
theorem chkTs_each {T : Tb} {csc : Scope} {env : PySem.Env} : ∀ {ts : Tgs} {es : List Expr}, chkTs T csc ts es = true → (assignEach es env).length = es.length ∧ (assignEach es env).findIdx? (·.1) = none
  | .nil, [], _ => ⟨rfl, rfl⟩
  | .cons t ts, e :: es, h => by
    unfold chkTs at h
    simp only [Bool.and_eq_true] at h
    obtain ⟨h1, h2⟩ := chkTs_each (env := env) h.2
    rw [assignEach_cons h.1.1]
    refine ⟨by rw [List.length_cons, h1, List.length_cons], ?_⟩
    rw [List.findIdx?_cons]
    simp [h2]
  | .nil, _ :: _, h => by unfold chkTs at h; cases h
  | .cons _ _, [], h => by unfold chkTs at h; cases h
/-- where targets are stored -/
structure TgCtx (X : Cx) (csc : Scope) (N : List Str) : Prop where
  hN : X.N = N
  nd : N.Nodup
  calm : X.calm = true
  st : ∀ x, (csc.names.lookup x = some .local ∨ csc.names.lookup x = some .cell) → Loc X.env.scope x ∧ (X.fn x = true ∨ X.env.scope.names.lookup x = some .local)
theorem Ctx.tg {ec : Nat → Option Value} {FT GT : Nat → Option Str} {Γ : Gam} {X : Cx} {W : WX} {sc csc : Scope} {N : List Str} (C : Ctx ec FT GT MT CT Γ X W sc csc N) : TgCtx X csc N := ⟨C.hN, C.nd, C.calm, fun x h => by
  have := C.st x h
  rw [← C.hsc] at this
  exact this⟩
theorem asgPs_len {T : Tb} {csc : Scope} : ∀ {ts : Tgs} {es : List Expr} {xs : List PV} {ps : List (Nat × PV)}, chkTs T csc ts es = true → asgPs ts xs = some ps → xs.length = es.length
  | .nil, [], [], _, _, _ => rfl
  | .nil, [], _ :: _, _, _, e => nomatch e
  | .nil, _ :: _, _, _, h, _ => by unfold chkTs at h; cases h
  | .cons _ _, [], _, _, h, _ => by unfold chkTs at h; cases h
  | .cons _ _, _ :: _, [], _, _, e => nomatch e
  | .cons t ts, e :: es, x :: xs, ps, h, e' => by
    unfold chkTs at h
    simp only [Bool.and_eq_true] at h
    unfold asgPs at e'
    cases hb : asgPs ts xs with
    | none => rw [hb] at e'; split at e' <;> contradiction
    | some b => rw [List.length_cons, List.length_cons, asgPs_len h.2 hb]
mutual
theorem pg_ok {T : Tb} {csc : Scope} {X : Cx} (C : TgCtx X csc T.N) : ∀ {t : Tg} {e : Expr}, chkT T csc t e = true → PG X e (GTv X.kx t)
  | .name i, e, h => by
    cases e <;> try exact nomatch (show false = true from h)
    rename_i x pos
    have h' : (decide (T.N[i]? = some x) && stB csc x) = true := h
    rw [Bool.and_eq_true] at h'
    obtain ⟨h1, h2⟩ := h'
    obtain ⟨l, f⟩ := C.st x (stB_ok h2)
    refine ⟨fun pins s σ H v u Q I r hw => (pg_name (by rw [C.hN]; exact C.nd) (by rw [C.hN]; exact of_decide_eq_true h1) l f).run pins s σ H v u Q I r ?_⟩
    obtain ⟨G, y, ps, r, e, q⟩ := hw
    cases e
    exact q [v] (.cons r .nil)
  | .tup ts, e, h => by
    cases e <;> try exact nomatch (show false = true from h)
    rename_i es k pos
    have h' : chkTs T csc ts es = true := h
    obtain ⟨e1, e2⟩ := chkTs_each (env := X.env) h'
    refine ⟨fun pins s σ H v u Q I r hw => (pg_tup C.calm (pgs_ok C h') e1 e2).run pins s σ H v u Q I r ?_⟩
    obtain ⟨G, y, ps, r, e, q⟩ := hw
    cases y <;> try exact nomatch (show none = some ps from e)
    cases r with
    | tup hs rs =>
      refine ⟨_, _, rfl, hs, ?_, G, _, ps, rs, e, q⟩
      rw [rs.length]
      exact asgPs_len h' e
theorem pgs_ok {T : Tb} {csc : Scope} {X : Cx} (C : TgCtx X csc T.N) : ∀ {t : Tgs} {e : List Expr}, chkTs T csc t e = true → PGs X e (GTsv X.kx t)
  | .nil, [], _ => ⟨fun pins s σ H vs us Q I r ⟨G, xs, ps, rs, e, q⟩ => pgs_nil.run pins s σ H vs us Q I r (by
      cases xs with
      | cons _ _ => cases e
      | nil => cases e; cases rs; exact ⟨rfl, q [] .nil⟩)⟩
  | .cons t ts, e :: es, h => by
    unfold chkTs at h
    simp only [Bool.and_eq_true] at h
    obtain ⟨⟨h1, h2⟩, h3⟩ := h
    refine ⟨fun pins s σ H vs us Q I r hw => (pgs_cons (pg_ok C h2) (pgs_ok C h3) (by rw [assignEach_cons h1]; rfl)).run pins s σ H vs us Q I r ?_⟩
    obtain ⟨G, xs, ps, rs, e, q⟩ := hw
    cases xs with
    | nil => cases e
    | cons x xs =>
      cases rs with
      | cons r1 rs =>
        unfold asgPs at e
        cases ha : asgP t x with
        | none => rw [ha] at e; cases e
        | some a =>
          cases hb : asgPs ts xs with
          | none => rw [ha, hb] at e; cases e
          | some b =>
            rw [ha, hb] at e
            cases e
            refine ⟨_, _, rfl, G, x, a, r1, ha, fun us1 hu1 => ⟨G, xs, b, rs, hb, fun us2 hu2 => ?_⟩⟩
            have := q (us1 ++ us2) (by rw [List.map_append]; exact hu1.append hu2)
            rw [List.map_append, List.zip_append (by rw [List.length_map, hu1.length, List.length_map]), setA_append] at this
            exact this
  | .nil, _ :: _, h => by unfold chkTs at h; cases h
  | .cons _ _, [], h => by unfold chkTs at h; cases h
end

/-! ### comprehensions -/
theorem lookup_map {α : Type} {f : Str → α → α} : ∀ {l : List (Str × α)} {x : Str}, (l.map fun p => (p.1, f p.1 p.2)).lookup x = (l.lookup x).map (f x)
  | [], x => rfl
  | (n, k) :: l, x => by
    show ((n, f n k) :: l.map fun p => (p.1, f p.1 p.2)).lookup x = _
    rw [List.lookup_cons, List.lookup_cons]
    cases hb : x == n with
    | true =>
      have : x = n := by simpa using hb
      subst this
      rfl
    | false => exact lookup_map
def relF (sc : Scope) (n : Str) (k : NameKind) : NameKind := if (k == .free && sc.kind == .function && sc.names.lookup n == some .cell) = true then .cell else k
theorem relS_lookup {scope sc : Scope} {x : Str} (h : scope.names.lookup x = some .local ∨ scope.names.lookup x = some .cell) : (relS scope sc).names.lookup x = scope.names.lookup x := by
  have e : (relS scope sc).names = scope.names.map fun p => (p.1, relF sc p.1 p.2) := by
    unfold relS
    refine List.map_congr_left fun p _ => ?_
    obtain ⟨n, k⟩ := p
    show (if _ then (n, NameKind.cell) else (n, k)) = (n, relF sc n k)
    unfold relF
    split <;> rfl
  rw [e, lookup_map]
  rcases h with h | h <;> rw [h] <;> rfl
section
variable {ec : Nat → Option Value} {Γ : Gam} {T : Tb}
def WF : WX := fun _ _ _ _ => False
theorem Ctx.blk {X : Cx} {W : WX} {sc csc : Scope} (C : Ctx ec T.FT T.GT T.MT T.CT Γ X W sc csc T.N) (s : Shared) (H : Hp) (A : Addr) (cl : List (Str × Addr)) (fp : List Addr) (scope : Scope) :
    Ctx ec T.FT T.GT T.MT T.CT Γ (X.blk s H scope (compEnvC scope cl A X.env) fp) WF (relS scope sc) scope T.N where
  hsc := by rw [← C.hsc]; rfl
  hN := C.hN
  nd := C.nd
  calm := C.calm
  tk := fun u s' ⟨_, _, _, _, _, _, _, _, _, _, _, _, _, _, _, _, w⟩ => w.elim
  hu := C.hu
  bn := C.bn
  fn := C.fn
  gl := C.gl
  cl := fun c h => ⟨(C.cl c h).cl, (C.cl c h).na, (C.cl c h).mkr, (C.cl c h).mg⟩
  mt := C.mt
  st := fun x h => by
    rw [relS_lookup h]
    unfold L2.Loc
    rw [relS_lookup h]
    refine ⟨h, ?_⟩
    rcases h with h | h
    · exact .inr h
    · left
      show (scope.names.lookup x == some .cell) = true
      rw [h]
      rfl
  ty := fun _ _ _ => trivial
mutual
theorem chkT_vars {csc : Scope} : ∀ {t : Tg} {e : Expr}, chkT T csc t e = true → (tgOwn T.N t).map (·.2) = tgVars t
  | .name i, e, h => by
    cases e <;> try exact nomatch (show false = true from h)
    rename_i x pos
    have h' : (decide (T.N[i]? = some x) && stB csc x) = true := h
    rw [Bool.and_eq_true] at h'
    unfold tgOwn tgVars
    rw [of_decide_eq_true h'.1]
    rfl
  | .tup ts, e, h => by
    cases e <;> try exact nomatch (show false = true from h)
    rename_i es k pos
    have h' : chkTs T csc ts es = true := h
    unfold tgOwn tgVars
    exact chkTs_vars h'
theorem chkTs_vars {csc : Scope} : ∀ {t : Tgs} {e : List Expr}, chkTs T csc t e = true → (tgsOwn T.N t).map (·.2) = tgsVars t
  | .nil, [], _ => rfl
  | .cons t ts, e :: es, h => by
    unfold chkTs at h
    simp only [Bool.and_eq_true] at h
    unfold tgsOwn tgsVars
    rw [List.map_append, chkT_vars h.1.2, chkTs_vars h.2]
  | .nil, _ :: _, h => by unfold chkTs at h; cases h
  | .cons _ _, [], h => by unfold chkTs at h; cases h
end
theorem Nw.upd {G : Gh} {H : Hp} {st : S} {p : Addr} {us ws : List V} (w : Wr G H st) (h : H p = some (.lst us)) (l : ¬ G.L p) (m : ¬ G.mut p) : Nw G H G (upd H p (.lst ws)) st := by
  have kl : KeepL G H (L2.upd H p (.lst ws)) := fun q o hq e => by
    by_cases hp : q = p
    · subst hp
      rw [h] at e
      cases e
      rcases hq with hq | ⟨_, hq⟩ | ⟨_, _, hq⟩
      · exact absurd hq l
      · cases hq
      · cases hq
    · rw [upd_ne hp]; exact e
  have ko : ∀ q o, G.om q → H q = some o → L2.upd H p (.lst ws) q = some o := fun q o hq e => by
    rw [upd_ne (fun z => m (by rw [← z]; exact .inr hq))]; exact e
  refine ⟨Gr.refl, kl, w.keep ⟨w.lm, fun q hq => ?_, ?_, w.co, fun q hq => ?_⟩ Gr.refl rfl kl ko fun _ z => z⟩
  · by_cases hp : q = p
    · subst hp; exact ⟨_, upd_same⟩
    · rw [upd_ne hp]; exact w.lt q hq
  · have c := w.cn
    cases e : st.cnt with
    | none => rw [e] at c; exact c
    | some n =>
      rw [e] at c
      obtain ⟨a, h1, h2⟩ := c
      refine ⟨a, h1, ?_⟩
      rw [upd_ne (fun z => m (by rw [← z]; exact .inl h1))]
      exact h2
  · rcases w.om q hq with ⟨a, e⟩ | ⟨a, b, c, e⟩ | ⟨a, e⟩
    · exact .inl ⟨a, ko _ _ hq e⟩
    · exact .inr (.inl ⟨a, b, c, ko _ _ hq e⟩)
    · exact .inr (.inr ⟨a, ko _ _ hq e⟩)
theorem comp_tLc {elt : Ex} {tg : Tg} {it : Src} {cs : Exs} {K : KX} {W : WX} {t : Expr} {csc : Scope} (h2 : chkT T csc tg t = true) {σ : L2.St} {H : Hp} {Q : VK} (q : TEv K ec Γ W (.comp elt tg it cs) σ H Q) :
    tLc (TIm true K ec Γ W it) (GTv K tg) (TCv K ec Γ WF cs) (TEv K ec Γ WF elt) ((tgOwn T.N tg).map (·.2)) σ H Q := by
  obtain ⟨G, env, st, w, eo, q⟩ := q
  unfold evE at q
  rw [wpM_bind] at q
  refine ⟨G, env, st, w, eo, (fun z => nomatch z), wpM_mono q (fun xs st1 q G1 H1 J a wk D hD => ?_) fun _ _ z => z⟩
  split at q
  case isFalse => exact q.elim
  rename_i hlim
  have q := wpM_noexc (ex' := fun _ _ => False) q
  rw [wpM_bind] at q
  rw [chkT_vars h2]
  have eo1 := eo.mono w a
  have rel : ∀ {G2 : Gh} {H2 : Hp} {st2 : S}, After G1 H1 st2 G2 H2 → mRel true G1 H1 G2 H2 st2 := fun a => a
  generalize hF : (fun v => M.bind (ofO (asgT tg v env)) fun env' => M.bind (evalCs Γ cs env') fun b => if b = true then M.bind (evE Γ false elt env') fun y => M.ret (some y.1) else M.ret none) = F at q
  refine ⟨fun i m H2 => m = xs.length - i ∧ i ≤ xs.length ∧ ∃ G2 st2 acc done, After G1 H1 st2 G2 H2 ∧ H2 D = some (.lst acc) ∧ ¬ G2.mut D ∧ ¬ G2.L D ∧ acc.length ≤ i ∧ Reps K G2 H2 acc done ∧
    wpM (mapMx F (xs.drop i)) st2 (fun ys st' => OKE K G H Q (.lst (done ++ ys), true) st') (fun _ _ => False), ⟨_, rfl, Nat.zero_le _, G1, st1, [], [], ?_, upd_same, ?_, ?_, Nat.le_refl _, .nil, ?_⟩, ?_⟩
  · exact ⟨Le.refl, keep_upd hD, a.wr.upd_new hD st1⟩
  · intro m
    obtain ⟨_, e⟩ := a.wr.mut_some m
    rw [hD] at e
    cases e
  · exact a.wr.fresh_L hD
  · exact wpM_mono q (fun ys st' q => q) fun _ _ z => z
  · rintro i m H2 ⟨rfl, hi, G2, st2, acc, done, a2, hacc, hm, hl, hlen, rs, q⟩
    by_cases hlt : i < xs.length
    case neg =>
      have e : i = xs.length := by omega
      subst e
      left
      refine ⟨wk.stop _ _ _ (rel a2), ?_⟩
      rw [List.drop_length] at q
      have q : OKE K G H Q (.lst (done ++ []), true) st2 := q
      rw [List.append_nil] at q
      refine q G2 H2 _ (a.trans w a2) ?_
      unfold ResOk
      rw [if_pos rfl]
      exact ⟨D, acc, done, rfl, rfl, hm, hl, a.keep.dom w a.le a.wr hD, hacc, rs⟩
    case pos =>
      right
      refine ⟨wk.go _ _ _ _ (rel a2) hlt, fun H4 => ∃ G2 st2 acc done, After G1 H1 st2 G2 H4 ∧ H4 D = some (.lst acc) ∧ ¬ G2.mut D ∧ ¬ G2.L D ∧ acc.length ≤ i + 1 ∧ Reps K G2 H4 acc done ∧
        wpM (mapMx F (xs.drop (i + 1))) st2 (fun ys st' => OKE K G H Q (.lst (done ++ ys), true) st') (fun _ _ => False), fun H' q => ⟨xs.length - (i + 1), by omega, rfl, hlt, q⟩, fun v H3 y => ?_⟩
      obtain ⟨x, hx, a3, rx⟩ := wk.yld _ _ _ _ _ _ (rel a2) hlt y
      have ed : xs.drop i = x :: xs.drop (i + 1) := by
        rw [List.drop_eq_getElem_cons hlt]
        rw [get_same hlt] at hx
        cases hx
        rfl
      rw [ed] at q
      unfold mapMx at q
      rw [wpM_bind] at q
      rw [← hF] at q
      simp only at q
      rw [wpM_bind] at q
      obtain ⟨env', e1, q⟩ := wpM_ofO q
      rw [asgT_eq] at e1
      cases e2 : asgP tg x with
      | none => rw [e2] at e1; cases e1
      | some ps =>
        rw [e2] at e1
        cases e1
        refine ⟨G2, x, ps, rx, e2, fun us hus => ⟨?_, ?_⟩⟩
        · refine wipe_setA fun j hj => ?_
          rw [← asgP_vars e2]
          obtain ⟨z, hz, rfl⟩ := List.mem_map.mp hj
          exact (List.of_mem_zip hz).1
        · have eo3 : EnvOk K G2 (setA (envP ps) env) (setA ((ps.map (·.1)).zip us) (L2.wipe σ (tgVars tg))) H3 := by
            have z := (((eo1.mono a.wr a2).mono a2.wr a3).wipes (tgVars tg)).setA hus
            rw [← asgP_vars e2, setA_wipe] at z
            rw [← asgP_vars e2]
            exact z
          have hD3 : H3 D = some (.lst acc) := a3.keep _ _ hm hacc
          rw [wpM_bind] at q
          refine ⟨G2, _, st2, a3.wr, eo3, wpM_mono q (fun b st4 q G4 H4 a4 => ?_) fun _ _ z => z.elim⟩
          have a34 := a3.trans a2.wr a4
          cases b with
          | false =>
            show (if false = true then _ else _)
            rw [if_neg Bool.false_ne_true]
            simp only [Bool.false_eq_true, if_false] at q
            rw [wpM_ret, wpM_bind] at q
            refine ⟨G4, st4, acc, done, a2.trans a.wr a34, a34.keep _ _ hm hacc, a34.le.not_mut hacc hm, a34.le.not_L hacc hl, by omega, rs.mono a2.wr a34.le a34.keep, ?_⟩
            rw [hF] at q
            exact q
          | true =>
            show (if true = true then _ else _)
            rw [if_pos rfl]
            simp only [if_true] at q
            rw [wpM_bind] at q
            refine ⟨G4, _, st4, a4.wr, eo3.mono a3.wr a4, wpM_mono q (fun r st5 q G5 H5 u a5 ro => ?_) fun _ _ z => z.elim⟩
            obtain ⟨G6, a6, r6, _, _⟩ := a5.freeze ro
            have a36 := a34.trans a2.wr a6
            have hD6 := a36.keep _ _ hm hacc
            have hm6 := a36.le.not_mut hacc hm
            have hl6 := a36.le.not_L hacc hl
            refine ⟨acc, hD6, lim_line (by omega), ?_⟩
            rw [wpM_ret, wpM_bind] at q
            have nw := Nw.upd (ws := acc ++ [u]) a6.wr hD6 hl6 hm6
            refine ⟨G6, st5, acc ++ [u], done ++ [r.1], ?_, upd_same, hm6, hl6, by rw [List.length_append]; show acc.length + 1 ≤ _; omega, ?_, ?_⟩
            · have b := a2.trans a.wr a36
              refine ⟨b.le, fun p o hm' e => ?_, nw.w⟩
              rw [upd_ne (fun z => by subst z; rw [hD] at e; cases e)]
              exact b.keep p o hm' e
            · exact ((rs.mono a2.wr a36.le a36.keep).append (.cons r6 .nil)).nw nw
            · rw [hF] at q
              refine wpM_mono q (fun ys st' q => ?_) fun _ _ z => z
              rw [List.append_assoc]
              exact q
theorem sE_comp {elt : Ex} {tg : Tg} {it : Src} {cs : Exs} (hE : SE ec Γ T elt) (hI : SI ec Γ T it) (hC : SEs ec Γ T cs) : SE ec Γ T (.comp elt tg it cs) := .plain fun e X W sc csc C hc => by
  cases e <;> try exact nomatch (show false = true from hc)
  rename_i e gs scope pos
  rcases gs with _ | ⟨⟨t, i, ifs, (_ | k) | k⟩, _ | ⟨_, _⟩⟩ <;> try exact nomatch (show false = true from hc)
  have hc' : (blkC T.N sc scope (tgOwn T.N tg) && chkT T scope tg t && chkI T sc it t i && notSet i && chkEs T (relS scope sc) cs ifs && decide (ifs.length ≤ 1) && chkE T (relS scope sc) elt e) = true := hc
  simp only [Bool.and_eq_true] at hc'
  obtain ⟨⟨⟨⟨⟨⟨h1, h2⟩, h3⟩, h4⟩, h5⟩, h6⟩, h7⟩ := hc'
  have B := fun s H A cl fp => C.blk s H A cl fp scope
  refine ⟨rfl, PE_imp (pe_lc C.calm (by rw [C.hN]; exact C.nd) (hI true t i X W sc csc C h3) (blkOk_by (by rw [C.hN, C.hsc]; exact h1)) (fun s H A cl fp => (show PG _ t (GTv X.kx tg) from pg_ok (B s H A cl fp).tg h2))
    (fun s H A cl fp => (show PTs _ ifs (TCv X.kx ec Γ WF cs) from (hC ifs _ WF _ _ (B s H A cl fp) h5).cs (of_decide_eq_true h6))) (fun s H A cl fp => (show PE _ e (TEv X.kx ec Γ WF elt) from hE.pe (B s H A cl fp) h7)) (folded_set h4)) fun σ H Q q => comp_tLc h2 q⟩
/-! ### all terms -/
mutual
theorem sE : ∀ m : Ex, SE ec Γ T m
  | .var i => sE_var i
  | .int i => sE_int i
  | .str s => sE_str s
  | .bl b => sE_bl b
  | .non => sE_non
  | .glob g => sE_glob g
  | .tup es => sE_tup (sEs es)
  | .lst es => sE_lst (sEs es)
  | .bin _ a b => sE_bin (sE a) (sE b)
  | .neg a => sE_neg (sE a)
  | .not a => sE_not (sE a)
  | .cmp _ a b => sE_cmp (sE a) (sE b)
  | .cmp2 _ _ a b c => sE_cmp2 (sE a) (sE b) (sE c)
  | .and es => sE_and (sEs es)
  | .or es => sE_or (sEs es)
  | .ite c a b => sE_ite (sE c) (sE a) (sE b)
  | .idx a b => sE_idx (sE a) (sE b)
  | .sli a b c => sE_sli (sE a) (sE b) (sE c)
  | .rev a => sE_rev (sE a)
  | .omit => fun e _ _ _ _ _ hc => by cases e <;> exact nomatch (show false = true from hc)
  | .call _ es => sE_call (sEs es)
  | .blt _ es => sE_blt (sEs es)
  | .isi a _ => sE_isi (sE a)
  | .meth _ o es => sE_meth (sE o) (sEs es)
  | .comp elt _ it cs => sE_comp (sE elt) (sI it) (sEs cs)
  | .fld i j => sE_fld i j
  | .fix _ _ e => sE_fix (sE e)
  | .flen i j => sE_flen i j
  | .fcut i j b => sE_fcut i j b
  | .mk _ _ es => sE_mk (sEs es)
  | .mcall _ _ _ es => sE_mcall (sEs es)
  | .dnew => sE_dnew
  | .done a b => sE_done (sE a) (sE b)
  | .din _ a _ => sE_din (sE a)
  | .dget _ a => sE_dget (sE a)
  | .dlen _ => sE_dlen
  | .dsort _ => fun e _ _ _ _ _ hc => by cases e <;> exact nomatch (show false = true from hc)
  | .revh a _ => sE_revh (sE a)
  | .sset _ => fun e _ _ _ _ _ hc => by cases e <;> exact nomatch (show false = true from hc)
  | .lrng _ => fun e _ _ _ _ _ hc => by cases e <;> exact nomatch (show false = true from hc)
  | .trng _ => fun e _ _ _ _ _ hc => by cases e <;> exact nomatch (show false = true from hc)
theorem sEs : ∀ ms : Exs, SEs ec Γ T ms
  | .nil => sEs_nil
  | .cons m ms => sEs_cons (sE m) (sEs ms)
theorem sI : ∀ it : Src, SI ec Γ T it
  | .val e => sI_val (sE e)
  | .range1 a => sI_range1 (sE a)
  | .range2 a b => sI_range2 (sE a) (sE b)
  | .enum a => sI_enum (sE a)
  | .zip2 a b => sI_zip2 (sE a) (sE b)
  | .zip3 a b c => sI_zip3 (sE a) (sE b) (sE c)
end
end
end GB

/-! GStm: statements: places, slots stored, the small statements. -/
namespace GB
open PySem PySem.Spec PyProof.Rows L2
/-- where a def's body stands: at the entry (G0, H0), now (G, H) -/
structure SInv (K : KX) (G0 : Gh) (H0 : Hp) (st0 : S) (G : Gh) (H : Hp) (st : S) (env : Envi) (σ : L2.St) : Prop where
  w0 : Wr G0 H0 st0
  a : After G0 H0 st G H
  e : EnvOk K G env σ H
  fr : ∀ (i : Nat) (x : PV) (p : Addr), env[i]? = some (some (x, true)) → σ[i]? = some (some (V.ref p)) → H0 p = none
def EXS (ec : Nat → Option Value) (W : WX) (G0 : Gh) (H0 : Hp) : Nat → S → Prop := fun k st' => ∀ G' H' cls σ', After G0 H0 st' G' H' → ec k = some cls → W cls none σ' H'
def OKS (K : KX) (G0 : Gh) (H0 : Hp) (st0 : S) (G : Gh) (H : Hp) (D : Ends) : Fl × Envi → S → Prop := fun r st' => match r.1 with
  | .next => ∀ G' H' σ', SInv K G0 H0 st0 G' H' st' r.2 σ' → Nw G H G' H' st' → D.nx σ' H'
  | .ret x fr => ∀ G' H' v, After G0 H0 st' G' H' → ResOk K H0 G' H' v x fr → D.rt v H'
def TSv (K : KX) (ec : Nat → Option Value) (W : WX) (f : Envi → M (Fl × Envi)) : TS := fun D σ H => ∃ G0 H0 st0 G env st, SInv K G0 H0 st0 G H st env σ ∧ wpM (f env) st (OKS K G0 H0 st0 G H D) (EXS ec W G0 H0)
/-- a statement's place: begun at (G, H), now at (G1, H1) -/
structure Sl (K : KX) (G0 : Gh) (H0 : Hp) (st0 : S) (G : Gh) (H : Hp) (env : Envi) (σ : L2.St) (G1 : Gh) (H1 : Hp) (st1 : S) : Prop where
  s : SInv K G0 H0 st0 G1 H1 st1 env σ
  n : Nw G H G1 H1 st1
section
variable {K : KX} {ec : Nat → Option Value} {Γ : Gam} {W : WX} {G0 G G1 G2 : Gh} {H0 H H1 H2 : Hp} {st0 st st1 st2 : S} {env : Envi} {σ : L2.St}
theorem SInv.wr (I : SInv K G0 H0 st0 G H st env σ) : Wr G H st := I.a.wr
theorem SInv.step (I : SInv K G0 H0 st0 G H st env σ) (b : After G H st1 G1 H1) : SInv K G0 H0 st0 G1 H1 st1 env σ := ⟨I.w0, I.a.trans I.w0 b, I.e.mono I.wr b, I.fr⟩
theorem Sl.start (I : SInv K G0 H0 st0 G H st env σ) : Sl K G0 H0 st0 G H env σ G H st := ⟨I, Nw.refl I.wr⟩
theorem Nw.go {st2 : S} (a : Nw G H G1 H1 st1) (b : Nw G1 H1 G2 H2 st2) : Nw G H G2 H2 st2 := ⟨a.toGr.trans b.toGr, fun p o h e => b.kl p o (h.imp (a.l p) id) (a.kl p o h e), b.w⟩
theorem Sl.step (p : Sl K G0 H0 st0 G H env σ G1 H1 st1) (b : After G1 H1 st2 G2 H2) : Sl K G0 H0 st0 G H env σ G2 H2 st2 := ⟨p.s.step b, p.n.go (b.nw p.s.wr)⟩
theorem EXS.exc (I : SInv K G0 H0 st0 G H st env σ) {k : Nat} {st' : S} (h : EXS ec W G0 H0 k st') : EXC ec W σ G H k st' := fun G' H' cls b e => h G' H' cls σ (I.a.trans I.w0 b) e
theorem Sl.bindE {β : Type} {m : Ex} {f : PV × Bool → M β} {ok : β → S → Prop} {R : VK} (p : Sl K G0 H0 st0 G H env σ G1 H1 st1) (h : wpM (M.bind (evE Γ false m env) f) st1 ok (EXS ec W G0 H0))
    (k : ∀ r st2 G2 H2 v, Sl K G0 H0 st0 G H env σ G2 H2 st2 → After G1 H1 st2 G2 H2 → ResOk K H1 G2 H2 v r.1 r.2 → wpM (f r) st2 ok (EXS ec W G0 H0) → R v H2) : TEv K ec Γ W m σ H1 R := by
  rw [wpM_bind] at h
  exact ⟨G1, env, st1, p.s.wr, p.s.e, wpM_mono h (fun x st2 q G2 H2 v b r => k x st2 G2 H2 v (p.step b) b r q) fun kk st2 q => EXS.exc p.s q⟩
/-- .. and frozen -/
theorem Sl.bindF {β : Type} {m : Ex} {f : PV × Bool → M β} {ok : β → S → Prop} {R : VK} (p : Sl K G0 H0 st0 G H env σ G1 H1 st1) (h : wpM (M.bind (evE Γ false m env) f) st1 ok (EXS ec W G0 H0))
    (k : ∀ r st2 G2 H2 v, Sl K G0 H0 st0 G H env σ G2 H2 st2 → After G1 H1 st2 G2 H2 → Rep K G2 H2 v r.1 → wpM (f r) st2 ok (EXS ec W G0 H0) → R v H2) : TEv K ec Γ W m σ H1 R :=
  p.bindE h fun r st2 G2 H2 v _ a ro q => by
    obtain ⟨G3, a3, r3, _, _⟩ := a.freeze ro
    exact k r st2 G3 H2 v (p.step a3) a3 r3 q
theorem Sl.bindB {β : Type} {m : Ex} {f : PV → M β} {ok : β → S → Prop} {R : VK} (p : Sl K G0 H0 st0 G H env σ G1 H1 st1) (h : wpM (M.bind (evalB Γ m env) f) st1 ok (EXS ec W G0 H0))
    (k : ∀ x st2 G2 H2 v, Sl K G0 H0 st0 G H env σ G2 H2 st2 → After G1 H1 st2 G2 H2 → WRep K G2 H2 v x → wpM (f x) st2 ok (EXS ec W G0 H0) → R v H2) : TBv K ec Γ W m σ H1 R := by
  rw [wpM_bind] at h
  exact ⟨G1, env, st1, p.s.wr, p.s.e, wpM_mono h (fun x st2 q G2 H2 v b r => k x st2 G2 H2 v (p.step b) b r q) fun kk st2 q => EXS.exc p.s q⟩
theorem Sl.bindT {β : Type} {m : Ex} {f : Bool → M β} {ok : β → S → Prop} {R : Bool → Hp → Prop} (p : Sl K G0 H0 st0 G H env σ G1 H1 st1) (h : wpM (M.bind (evalB Γ m env) fun x => M.bind (ofO (asBool x)) f) st1 ok (EXS ec W G0 H0))
    (k : ∀ b st2 G2 H2, Sl K G0 H0 st0 G H env σ G2 H2 st2 → wpM (f b) st2 ok (EXS ec W G0 H0) → R b H2) : TTv K ec Γ W m σ H1 R := by
  rw [wpM_bind] at h
  refine ⟨G1, env, st1, p.s.wr, p.s.e, wpM_mono h (fun x st2 q => ?_) fun kk st2 q => EXS.exc p.s q⟩
  rw [wpM_bind] at q
  obtain ⟨b, e, q⟩ := wpM_ofO q
  cases x <;> try contradiction
  cases e
  exact ⟨_, rfl, fun G2 H2 b => k _ st2 G2 H2 (p.step b) q⟩
/-! ### slots -/
theorem set_key {env : Envi} {i j : Nat} {s : Slt} {y : PV} {b : Bool} (h : (env.set i s)[j]? = some (some (y, b))) : (j = i ∧ s = some (y, b) ∧ i < env.length) ∨ (j ≠ i ∧ env[j]? = some (some (y, b))) := by
  by_cases hj : i = j
  · subst hj
    rw [List.getElem?_set] at h
    split at h
    · split at h
      · cases h; exact .inl ⟨rfl, rfl, by assumption⟩
      · cases h
    · rename_i hn; exact absurd rfl hn
  · rw [List.getElem?_set_ne hj] at h
    exact .inr ⟨fun z => hj z.symm, h⟩
theorem set_out {α : Type} {l : List α} {i j : Nat} {x : α} (h : j ≠ i) : (l.set i x)[j]? = l[j]? := List.getElem?_set_ne fun z => h z.symm
theorem SInv.put (I : SInv K G0 H0 st0 G H st env σ) {v : V} {x : PV} (i : Nat) (r : Rep K G H v x) : SInv K G0 H0 st0 G H st (env.set i (some (x, false))) (σ.set i (some v)) := by
  refine ⟨I.w0, I.a, I.e.set i r, fun j y p h1 h2 => ?_⟩
  rcases set_key h1 with ⟨_, e, _⟩ | ⟨hj, h1⟩
  · cases e
  · rw [set_out hj] at h2
    exact I.fr j y p h1 h2
theorem SInv.puts : ∀ {ps : List (Nat × PV)} {us : List V} {env : Envi} {σ : L2.St}, SInv K G0 H0 st0 G H st env σ → Reps K G H us (ps.map (·.2)) → SInv K G0 H0 st0 G H st (setA (envP ps) env) (setA ((ps.map (·.1)).zip us) σ)
  | [], _, env, σ, I, .nil => I
  | (i, x) :: ps, _, env, σ, I, .cons r rs => SInv.puts (ps := ps) (I.put i r) rs
/-- a list that nobody else holds, stored -/
theorem SInv.putOwn (I : SInv K G0 H0 st0 G H st env σ) {p : Addr} {vs : List V} {xs : List PV} (i : Nat) (m : ¬ G.mut p) (l : ¬ G.L p) (h : H p = some (.lst vs)) (r : Reps K G H vs xs) (f0 : H0 p = none)
    (f : ∀ (j : Nat) (y : PV), env[j]? = some (some (y, true)) → σ[j]? ≠ some (some (V.ref p))) : SInv K G0 H0 st0 G H st (env.set i (some (.lst xs, true))) (σ.set i (some (.ref p))) := by
  refine ⟨I.w0, I.a, ⟨I.e.kk, by rw [List.length_set, List.length_set, I.e.len], fun j y h1 => ?_, fun j y h1 => ?_, fun j k y z q hne h1 h2 h3 => ?_⟩, fun j y q h1 h2 => ?_⟩
  · rcases set_key h1 with ⟨_, e, _⟩ | ⟨hj, h1⟩
    · cases e
    · rw [set_out hj]
      exact I.e.fz j y h1
  · rcases set_key h1 with ⟨hj, e, hl⟩ | ⟨hj, h1⟩
    · cases e
      subst hj
      exact ⟨p, vs, xs, List.getElem?_set_self (by rw [← I.e.len]; exact hl), rfl, m, l, h, r⟩
    · rw [set_out hj]
      exact I.e.ow j y h1
  · rcases set_key h1 with ⟨hj, e, hl⟩ | ⟨hj, h1⟩
    · subst hj
      rw [List.getElem?_set_self (by rw [← I.e.len]; exact hl)] at h3
      cases h3
      rcases set_key h2 with ⟨hk, _, _⟩ | ⟨hk, h2⟩
      · exact absurd hk.symm hne
      · rw [set_out hk]
        exact f k z h2
    · rw [set_out hj] at h3
      rcases set_key h2 with ⟨hk, _, hl⟩ | ⟨hk, h2⟩
      · subst hk
        rw [List.getElem?_set_self (by rw [← I.e.len]; exact hl)]
        intro z
        cases z
        exact f j y ‹_› h3
      · rw [set_out hk]
        exact I.e.di j k y z q hne h1 h2 h3
  · rcases set_key h1 with ⟨hj, e, hl⟩ | ⟨hj, h1⟩
    · subst hj
      rw [List.getElem?_set_self (by rw [← I.e.len]; exact hl)] at h2
      cases h2
      exact f0
    · rw [set_out hj] at h2
      exact I.fr j y q h1 h2
/-- what was reckoned at H1, stored at H2 -/
theorem SInv.putR (I1 : SInv K G0 H0 st0 G1 H1 st1 env σ) (I : SInv K G0 H0 st0 G H st env σ) {v : V} {x : PV} {fr : Bool} (i : Nat) (r : ResOk K H1 G H v x fr) : SInv K G0 H0 st0 G H st (env.set i (some (x, fr))) (σ.set i (some v)) := by
  unfold ResOk at r
  cases fr with
  | false =>
    rw [if_neg Bool.false_ne_true] at r
    exact I.put i r
  | true =>
    rw [if_pos rfl] at r
    obtain ⟨p, vs, xs, rfl, rfl, m, l, hn, h, rs⟩ := r
    refine I.putOwn i m l h rs (I1.a.keep.dom I1.w0 I1.a.le I1.a.wr hn) fun j y h1 h2 => ?_
    obtain ⟨q, _, _, e, _, _, _, e2, _⟩ := I1.e.ow j y h1
    rw [h2] at e
    cases e
    rw [hn] at e2
    cases e2
/-- an own list written -/
theorem SInv.upd (I : SInv K G0 H0 st0 G H st env σ) {i : Nat} {xs : List PV} (h : env[i]? = some (some (.lst xs, true))) : ∃ p vs, σ[i]? = some (some (.ref p)) ∧ H p = some (.lst vs) ∧ Reps K G H vs xs ∧ ¬ G.mut p ∧ ¬ G.L p ∧
    ∀ ws ys, Reps K G H ws ys → SInv K G0 H0 st0 G (upd H p (.lst ws)) st (env.set i (some (.lst ys, true))) σ ∧ Nw G H G (upd H p (.lst ws)) st := by
  obtain ⟨p, vs, xs', h1, e, m, l, hp, r⟩ := I.e.ow i _ h
  cases e
  refine ⟨p, vs, h1, hp, r, m, l, fun ws ys rs => ?_⟩
  have nw := Nw.upd (ws := ws) I.wr hp l m
  have h0 := I.fr i _ p h h1
  refine ⟨⟨I.w0, ⟨I.a.le, fun q o hm e => ?_, nw.w⟩, ⟨I.e.kk, by rw [List.length_set, I.e.len], fun j y hj => ?_, fun j y hj => ?_, fun j k y z q hne hj hk h3 => ?_⟩, fun j y q hj h2 => ?_⟩, nw⟩
  · rw [upd_ne (fun z => by subst z; rw [h0] at e; cases e)]
    exact I.a.keep q o hm e
  · rcases set_key hj with ⟨_, e, _⟩ | ⟨hne, hj⟩
    · cases e
    · obtain ⟨v, e1, e2⟩ := I.e.fz j y hj
      exact ⟨v, e1, e2.nw nw⟩
  · rcases set_key hj with ⟨e1, e2, _⟩ | ⟨hne, hj⟩
    · subst e1
      cases e2
      exact ⟨p, ws, ys, h1, rfl, m, l, upd_same, rs.nw nw⟩
    · obtain ⟨q, us, zs, e1, e2, e3, e4, e5, e6⟩ := I.e.ow j y hj
      refine ⟨q, us, zs, e1, e2, e3, e4, ?_, e6.nw nw⟩
      rw [upd_ne (fun z => by subst z; exact I.e.di j i y _ q hne hj h e1 h1)]
      exact e5
  · have own : ∀ {j : Nat} {y : PV}, (env.set i (some (.lst ys, true)))[j]? = some (some (y, true)) → ∃ y', env[j]? = some (some (y', true)) := fun {j y} hj => by
      rcases set_key hj with ⟨e1, _, _⟩ | ⟨_, hj⟩
      · subst e1; exact ⟨_, h⟩
      · exact ⟨_, hj⟩
    obtain ⟨y', hj⟩ := own hj
    obtain ⟨z', hk⟩ := own hk
    exact I.e.di j k y' z' q hne hj hk h3
  · rcases set_key hj with ⟨e1, _, _⟩ | ⟨_, hj⟩
    · subst e1
      exact I.fr j _ q h h2
    · exact I.fr j y q hj h2
/-- own lists that are owned no more -/
theorem SInv.weak {env' : Envi} (I : SInv K G0 H0 st0 G H st env σ) (hl : env'.length = env.length) (h : ∀ (i : Nat) (x : PV) (b : Bool), env'[i]? = some (some (x, b)) → ∃ b0, env[i]? = some (some (x, b0)) ∧ (b = true → b0 = true)) :
    ∃ G', SInv K G0 H0 st0 G' H st env' σ ∧ Nw G H G' H st ∧ G'.ca = G.ca := by
  let P : Addr → Prop := fun p => ∃ (i : Nat) (x : PV), env[i]? = some (some (x, true)) ∧ env'[i]? = some (some (x, false)) ∧ σ[i]? = some (some (V.ref p))
  have g : Gr G { G with L := fun p => G.L p ∨ P p } := ⟨fun _ h => .inl h, fun _ h => h, rfl, OoLe.refl⟩
  have nw : Nw G H { G with L := fun p => G.L p ∨ P p } H st := by
    refine ⟨g, KeepL.refl, I.wr.keep ⟨fun p hp => ?_, fun p hp => ?_, I.wr.cn, I.wr.co, I.wr.om⟩ g rfl KeepL.refl (fun _ _ _ z => z) fun _ z => z⟩
    · rcases hp with hp | ⟨i, x, h1, _, h3⟩
      · exact I.wr.lm p hp
      · obtain ⟨q, _, _, e, _, m, _⟩ := I.e.ow i x h1
        rw [h3] at e
        cases e
        exact m
    · rcases hp with hp | ⟨i, x, h1, _, h3⟩
      · exact I.wr.lt p hp
      · obtain ⟨q, _, _, e, _, _, _, e2, _⟩ := I.e.ow i x h1
        rw [h3] at e
        cases e
        exact ⟨_, e2⟩
  refine ⟨{ G with L := fun p => G.L p ∨ P p }, ⟨I.w0, ⟨⟨fun p hp => .inl (I.a.le.l p hp), fun p hp => ?_, I.a.le.m, I.a.le.mn, I.a.le.c, I.a.le.k, I.a.le.o⟩, I.a.keep, nw.w⟩, ⟨I.e.kk, by rw [hl, I.e.len], fun i x hi => ?_, fun i x hi => ?_, fun i j x y p hne hi hj h3 => ?_⟩, fun i x p hi h2 => ?_⟩, nw, rfl⟩
  · rcases hp with hp | ⟨i, x, h1, _, h3⟩
    · exact I.a.le.ln p hp
    · exact .inr (I.fr i x p h1 h3)
  · obtain ⟨b0, e, _⟩ := h i x false hi
    cases b0 with
    | false =>
      obtain ⟨v, e1, e2⟩ := I.e.fz i x e
      exact ⟨v, e1, e2.nw nw⟩
    | true =>
      obtain ⟨p, vs, xs, e1, rfl, m, l, e2, e3⟩ := I.e.ow i x e
      exact ⟨_, e1, .lst (.inr ⟨i, _, e, hi, e1⟩) e2 (e3.nw nw)⟩
  · obtain ⟨b0, e, hb⟩ := h i x true hi
    cases hb rfl
    obtain ⟨p, vs, xs, e1, rfl, m, l, e2, e3⟩ := I.e.ow i x e
    refine ⟨p, vs, xs, e1, rfl, m, fun z => ?_, e2, e3.nw nw⟩
    rcases z with z | ⟨j, y, h1, h2, h3⟩
    · exact l z
    · by_cases hij : i = j
      · subst hij
        rw [hi] at h2
        cases h2
      · exact I.e.di i j _ _ p hij e h1 e1 h3
  · obtain ⟨b0, e, hb⟩ := h i x true hi
    obtain ⟨b1, e', hb'⟩ := h j y true hj
    cases hb rfl
    cases hb' rfl
    exact I.e.di i j x y p hne e e' h3
  · obtain ⟨b0, e, hb⟩ := h i x true hi
    cases hb rfl
    exact I.fr i x p e h2
end
end GB

/-! GStmA: the statements' check; assignments, calls of methods, return, raise. -/
namespace GB
open PySem PySem.Spec PyProof.Rows L2
def notComp : Expr → Bool
  | .ListComp _ _ _ _ => false | .SetComp _ _ _ _ => false | .DictComp _ _ _ _ _ => false | _ => true
def notTup : Expr → Bool
  | .Tuple _ _ _ => false | _ => true
def nameB (T : Tb) (sc : Scope) (i : Nat) (x : Str) : Bool := decide (T.N[i]? = some x) && stB sc x && okName x
def lcSw (sc : Scope) (y : Str) (py : Pos) (scope : Scope) (pos : Pos) : Bool := (sc.names.lookup y == some .local) && py.line == pos.line && !(scope.names.any fun (n, k) => n == y && (k == .local || k == .cell))
/-- is the value's comprehension stored while its frame stands? -/
def swv (sc : Scope) (y : Str) (py : Pos) : Expr → Bool
  | .ListComp _ _ scope pos => lcSw sc y py scope pos
  | _ => false
def swN (sc : Scope) (ts vs : List Expr) : Option (Option (List Str)) :=
  if !(ts.length == 2 || ts.length == 3) || vs.length != ts.length then some none
  else if vs.any fun | .Starred .. => true | _ => false then some none
  else
    let line := (ts.head?.map (·.pos.line)).getD 0
    let names := ts.filterMap fun
      | .Name id pos => if sc.names.lookup id == some .local && pos.line == line then some id else none
      | _ => none
    if names.length != ts.length || names.eraseDups.length != names.length then some none
    else if vs.all (foldedForSure 8) then some none
    else if vs.all (constantsAlone 8) then none
    else some (some names)
def chkNs (T : Tb) (sc : Scope) : List Nat → List Expr → Bool
  | [], [] => true
  | i :: is, .Name x _ :: es => nameB T sc i x && chkNs T sc is es
  | _, _ => false
def isLoc (sc : Scope) (x : Str) : Bool := match sc.names.lookup x with | some .local => true | _ => false
def parB (sc : Scope) (is : List Nat) (ts vs : List Expr) : Bool := match swN sc ts vs with
  | some none => true
  | some (some names) => (match is, ts, names with
    | [i, j], [.Name x _, .Name y _], [x', y'] => decide (i ≠ j) && decide (x = x') && decide (y = y') && isLoc sc x && isLoc sc y
    | [i, j, k], [.Name x _, .Name y _, .Name z _], [x', y', z'] => decide (i ≠ j) && decide (i ≠ k) && decide (j ≠ k) && decide (x = x') && decide (y = y') && decide (z = z') && isLoc sc x && isLoc sc y && isLoc sc z
    | _, _, _ => false)
  | none => false
/-- a call of a list's method -/
def popB (T : Tb) (sc : Scope) (i : Nat) (ix : Option Ex) : Expr → Bool
  | .Call (.Attribute (.Name x _) m ap) as [] cp => decide (m = "pop") && nameB T sc i x && ap.endLine == cp.line && (match ix, as with
    | none, [] => true
    | some e, [v] => notStar v && chkE T sc e v
    | _, _ => false)
  | _ => false
def addSub : BOp → Bool
  | .add => true | .sub => true | _ => false
def fsetP (T : Tb) (sc : Scope) (i j : Nat) : Stmt → Option Expr
  | .Assign [o] v _ => if fldB T sc i j o then some v else none
  | _ => none
def fsetiP (T : Tb) (sc : Scope) (i j : Nat) : Stmt → Option (Expr × Expr)
  | .Assign [.Subscript o s _] v _ => if fldB T sc i j o && notSlice s then some (s, v) else none
  | _ => none
def fappP (T : Tb) (sc : Scope) (i j : Nat) : Stmt → Option Expr
  | .Expr (.Call (.Attribute o m ap) [v] [] cp) _ => if decide (m = "append") && fldB T sc i j o && ap.endLine == cp.line && notStar v then some v else none
  | _ => none
def isTupE : Expr → Bool
  | .Tuple _ _ _ => true
  | _ => false
def forfP (T : Tb) (sc : Scope) (i j : Nat) : Stmt → Option (Expr × List Stmt)
  | .For tg (.Call (.Name g _) [o] [] _) b [] _ => if decide (g = "enumerate") && glB sc g && fldB T sc i j o && isTupE tg then some (tg, b) else none
  | _ => none
def dputP (T : Tb) (sc : Scope) (i : Nat) : Stmt → Option (Expr × Expr)
  | .Assign [.Subscript (.Name x _) s _] v _ => if varB T sc i x && notSlice s && notComp v then some (s, v) else none
  | _ => none
mutual
def chkS (T : Tb) (XT : Nat → Option Str) (sc : Scope) : Cmd → Stmt → Bool
  | .asg (.name i) e, .Assign [.Name x _] v _ => nameB T sc i x && chkE T sc e v
  | .asg (.tup ts) e, .Assign [.Tuple es _ _] v _ => chkTs T sc ts es && notTup v && chkE T sc e v
  | .par is es, .Assign [.Tuple ts _ _] (.Tuple vs _ _) _ => chkNs T sc is ts && chkEs T sc es vs && parB sc is ts vs && decide (vs.length ≤ 100000) && decide (is.length = vs.length)
  | .seti i ix e, .Assign [.Subscript (.Name x _) s _] v _ => nameB T sc i x && notSlice s && chkE T sc ix s && chkE T sc e v
  | .augi i op ix e, .AugAssign (.Subscript (.Name x _) s _) o v _ => nameB T sc i x && notSlice s && opB op o && addSub op && chkE T sc ix s && chkE T sc e v
  | .aug i op e, .AugAssign (.Name x _) o v _ => nameB T sc i x && opB op o && addSub op && chkE T sc e v
  | .app i e, .Expr (.Call (.Attribute (.Name x _) m ap) [v] [] cp) _ => decide (m = "append") && nameB T sc i x && ap.endLine == cp.line && notStar v && chkE T sc e v
  | .ext i e, .Expr (.Call (.Attribute (.Name x _) m ap) [v] [] cp) _ => decide (m = "extend") && nameB T sc i x && ap.endLine == cp.line && notStar v && chkE T sc e v
  | .pop none i ix, .Expr v _ => popB T sc i ix v
  | .pop (some t) i ix, .Assign [tg] v _ => popB T sc i ix v && chkT T sc t tg
  | .apppop q i e, .Expr (.Call (.Attribute (.Name y _) m ap) [v] [] cp) _ => decide (m = "append") && nameB T sc q y && ap.endLine == cp.line && popB T sc i (some e) v
  | .mkcnt i, .Assign [.Name x _] (.List [] _) _ => nameB T sc i x
  | .expr e, .Expr v _ => notComp v && chkE T sc e v
  | .ret e, .Return (some v) _ => chkE T sc e v
  | .ret .non, .Return none _ => true
  | .ifs c a b, .If t x y _ => chkE T sc c t && chkSs T XT sc a x && chkSs T XT sc b y
  | .fors t it body, .For tg iter b [] _ => chkT T sc t tg && chkI T sc it tg iter && notSet iter && chkSs T XT sc body b
  | .whl c body, .While t b [] _ => chkE T sc c t && chkSs T XT sc body b
  | .raise k, .Raise (some (.Call (.Name x _) [.Constant (.str _) _ _] [] _)) none _ => decide (XT k = some x) && glB sc x
  | .pass, .Pass _ => true
  | .asgz i e, .Assign [.Name x _] v _ => nameB T sc i x && chkE T sc e v
  | .fset i j e, s => match fsetP T sc i j s with | some v => chkE T sc e v | none => false
  | .fseti i j ix e, s => match fsetiP T sc i j s with | some (k, v) => chkE T sc ix k && chkE T sc e v | none => false
  | .fapp i j e, s => match fappP T sc i j s with | some v => chkE T sc e v | none => false
  | .forf t i j body, s => match forfP T sc i j s with | some (tg, b) => chkT T sc t tg && chkSs T XT sc body b | none => false
  | .dput i k e, s => match dputP T sc i s with | some (x, v) => chkE T sc k x && chkE T sc e v | none => false
  | _, _ => false
def chkSs (T : Tb) (XT : Nat → Option Str) (sc : Scope) : Cmds → List Stmt → Bool
  | .nil, [] => true
  | .cons (.frz _) cs, ss => chkSs T XT sc cs ss
  | .cons c cs, s :: ss => chkS T XT sc c s && chkSs T XT sc cs ss
  | _, _ => false
end
/-- where statements run -/
structure SCtx (ec : Nat → Option Value) (T : Tb) (XT : Nat → Option Str) (Γ : Gam) (X : Cx) (W : WX) (sc : Scope) : Prop where
  C : Ctx ec T.FT T.GT T.MT T.CT Γ X W sc sc T.N
  hp : PassesOwn (model X.prog X.w) X.A X.env X.xe
  rz : ∀ k x, XT k = some x → ∃ cls, ec k = some cls ∧ ∀ (m : Str) (j : Nat) (p p2 pos : Pos), Gl X x → PMk X (.Call (.Name x p) [.Constant (.str m) j p2] [] pos) (fun _ H Q => Q cls none H)
section
variable {ec : Nat → Option Value} {Γ : Gam} {T : Tb} {XT : Nat → Option Str} {X : Cx} {W : WX} {sc : Scope} {n : Nat}
theorem nameB_ok {i : Nat} {x : Str} (C : Ctx ec T.FT T.GT T.MT T.CT Γ X W sc sc T.N) (h : nameB T sc i x = true) : X.N.Nodup ∧ X.N[i]? = some x ∧ L2.Loc X.env.scope x ∧ (X.fn x = true ∨ X.env.scope.names.lookup x = some .local) ∧ (∀ {p : Pos}, PE X (.Name x p) (tVar i)) := by
  unfold nameB at h
  simp only [Bool.and_eq_true] at h
  obtain ⟨⟨h1, h2⟩, h3⟩ := h
  have h1 : X.N[i]? = some x := by rw [C.hN]; exact of_decide_eq_true h1
  obtain ⟨l, f⟩ := C.st x (stB_ok h2)
  rw [← C.hsc] at l f
  obtain ⟨d1, d2⟩ := okName_ok h3
  exact ⟨by rw [C.hN]; exact C.nd, h1, l, f, fun {p} => pe_var h1 (l.elim .inl fun z => .inr (.inl z)) d1 d2⟩
theorem notComp_sw {v : Expr} (h : notComp v = true) (t : Option Expr) (l : Nat) (env : PySem.Env) : swapsWith v t l env = pure false := by
  cases v <;> first | rfl | cases h
theorem sw_name {v : Expr} {env : PySem.Env} (hk : env.scope.kind = .function) (hd : ∀ a b c d e, v ≠ .DictComp a b c d e) (hs : ∀ a b c d, v ≠ .SetComp a b c d) (y : Str) (py : Pos) (l : Nat) : swapsWith v (some (.Name y py)) l env = pure (swv env.scope y py v) := by
  cases v with
  | DictComp a b c d e => exact absurd rfl (hd a b c d e)
  | SetComp a b c d => exact absurd rfl (hs a b c d)
  | ListComp elt gs scope pos =>
    have hb : env.blockKind = .function := by unfold Env.blockKind; rw [hk]; rfl
    unfold swapsWith swv lcSw
    simp only [hb, Expr.pos]
    rfl
  | _ => rfl
theorem sw_tup {v : Expr} {env : PySem.Env} (es : List Expr) (k : Nat) (p : Pos) (l : Nat) : swapsWithSole [.Tuple es k p] v l env = pure false := by
  cases v <;> rfl
theorem sw_sub {v o i : Expr} {env : PySem.Env} (p : Pos) (l : Nat) : swapsWithSole [.Subscript o i p] v l env = pure false := by
  cases v <;> rfl
theorem ss_sub {v o i : Expr} {env : PySem.Env} (p : Pos) : swappedStores [.Subscript o i p] v env = pure none := by
  cases v <;> rfl
theorem ss_notTup {v : Expr} {env : PySem.Env} (h : notTup v = true) (es : List Expr) (k : Nat) (p : Pos) : swappedStores [.Tuple es k p] v env = pure none := by
  cases v <;> first | rfl | cases h
theorem ss_name {v : Expr} {env : PySem.Env} (x : Str) (p : Pos) : swappedStores [.Name x p] v env = pure none := by
  cases v <;> rfl
/-- a term is no set's, no dict's comprehension -/
theorem chk_noSD {m : Ex} {v : Expr} (h : chkE T sc m v = true) : (∀ a b c d e, v ≠ .DictComp a b c d e) ∧ (∀ a b c d, v ≠ .SetComp a b c d) := by
  refine ⟨fun a b c d e z => ?_, fun a b c d z => ?_⟩ <;> subst z <;> cases m <;> exact nomatch (show false = true from h)
/-- name = comprehension, the frame gone behind the store -/
theorem comp_imp {elt : Ex} {tg : Tg} {it : Src} {cs : Exs} {e : Expr} {gs : List Comprehension} {scope : Scope} {pos : Pos} (C : Ctx ec T.FT T.GT T.MT T.CT Γ X W sc sc T.N) (hc : chkE T sc (.comp elt tg it cs) (.ListComp e gs scope pos) = true) {i : Nat} {y : Str} {py spos : Pos} (hy : X.N[i]? = some y) (hyl : X.env.scope.names.lookup y = some .local)
    (hsw : swapsWith (.ListComp e gs scope pos) (some (.Name y py)) spos.line X.env = pure true) : PS X (.Assign [.Name y py] (.ListComp e gs scope pos) spos) (tAsg (TEv X.kx ec Γ W (.comp elt tg it cs)) (gName i)) := by
  rcases gs with _ | ⟨⟨t, iter, ifs, (_ | k) | k⟩, _ | ⟨_, _⟩⟩ <;> try exact nomatch (show false = true from hc)
  have hc' : (blkC T.N sc scope (tgOwn T.N tg) && chkT T scope tg t && chkI T sc it t iter && notSet iter && chkEs T (relS scope sc) cs ifs && decide (ifs.length ≤ 1) && chkE T (relS scope sc) elt e) = true := hc
  simp only [Bool.and_eq_true] at hc'
  obtain ⟨⟨⟨⟨⟨⟨h1, h2⟩, h3⟩, h4⟩, h5⟩, h6⟩, h7⟩ := hc'
  have B := fun s H A cl fp => C.blk s H A cl fp scope
  refine PS_imp (ps_setLc C.calm (by rw [C.hN]; exact C.nd) hy hyl hsw (sI it true t iter X W sc sc C h3) (blkOk_by (by rw [C.hN, C.hsc]; exact h1)) (fun s H A cl fp => (show PG _ t (GTv X.kx tg) from pg_ok (B s H A cl fp).tg h2))
    (fun s H A cl fp => (show PTs _ ifs (TCv X.kx ec Γ WF cs) from (sEs cs ifs _ WF _ _ (B s H A cl fp) h5).cs (of_decide_eq_true h6))) (fun s H A cl fp => (show PE _ e (TEv X.kx ec Γ WF elt) from (sE elt).pe (B s H A cl fp) h7)) (folded_set h4)) fun D σ H q => ?_
  exact comp_tLc h2 q
end
end GB

/-! GStmB: the statements. -/
namespace GB
open PySem PySem.Spec PyProof.Rows L2
section
variable {ec : Nat → Option Value} {Γ : Gam} {T : Tb} {XT : Nat → Option Str} {n : Nat}
def SS (ec : Nat → Option Value) (Γ : Gam) (T : Tb) (XT : Nat → Option Str) (n : Nat) (c : Cmd) : Prop := ∀ (s : Stmt) (X : Cx) (W : WX) (sc : Scope), SCtx ec T XT Γ X W sc → chkS T XT sc c s = true → PS X s (TSv X.kx ec W (exC Γ n c))
def SSs (ec : Nat → Option Value) (Γ : Gam) (T : Tb) (XT : Nat → Option Str) (n : Nat) (c : Cmds) : Prop := ∀ (s : List Stmt) (X : Cx) (W : WX) (sc : Scope), SCtx ec T XT Γ X W sc → chkSs T XT sc c s = true → PSs X s (TSv X.kx ec W (exCs Γ n c))
theorem sS_asgN {i : Nat} {e : Ex} : SS ec Γ T XT n (.asg (.name i) e) := fun s X W sc C hc => by
  cases s <;> try exact nomatch (show false = true from hc)
  rename_i ts v pos
  rcases ts with _ | ⟨t, _ | ⟨_, _⟩⟩ <;> (try cases t) <;> try exact nomatch (show false = true from hc)
  rename_i x p
  have hc' : (nameB T sc i x && chkE T sc e v) = true := hc
  rw [Bool.and_eq_true] at hc'
  obtain ⟨nd, hi, hl, hf, _⟩ := nameB_ok C.C hc'.1
  have fin : ∀ {D : Ends} {σ : L2.St} {H : Hp}, TSv X.kx ec W (exC Γ n (.asg (.name i) e)) D σ H → tAsg (TEv X.kx ec Γ W e) (gName i) D σ H := fun {D σ H} ⟨G0, H0, st0, G, env, st, I, q⟩ => by
    unfold exC at q
    refine (Sl.start I).bindE q fun r st1 G1 H1 w p1 a1 ro q => ?_
    exact q G1 H1 _ (I.putR p1.s i ro) p1.n
  obtain ⟨h1, h2⟩ := chk_noSD hc'.2
  refine ⟨fun pins s σ H D I q => ?_⟩
  have sw := sw_name I.ok.kind h1 h2 x p pos.line
  cases hs : swv X.env.scope x p v with
  | false =>
    rw [hs] at sw
    exact (ps_set nd hi hl ((sE e).pe C.C hc'.2) sw hf).run pins s σ H D I (fin q)
  | true =>
    rw [hs] at sw
    cases v <;> try exact nomatch (show false = true from hs)
    have hs0 := hs
    unfold swv lcSw at hs
    simp only [Bool.and_eq_true, beq_iff_eq] at hs
    cases e <;> try exact nomatch (show false = true from hc'.2)
    exact (comp_imp C.C hc'.2 hi hs.1.1 sw).run pins s σ H D I (fin q)
theorem sS_asgT {ts : Tgs} {e : Ex} : SS ec Γ T XT n (.asg (.tup ts) e) := fun s X W sc C hc => by
  cases s <;> try exact nomatch (show false = true from hc)
  rename_i tl v pos
  rcases tl with _ | ⟨t, _ | ⟨_, _⟩⟩ <;> (try cases t) <;> try exact nomatch (show false = true from hc)
  rename_i es k p
  have hc' : (chkTs T sc ts es && notTup v && chkE T sc e v) = true := hc
  simp only [Bool.and_eq_true] at hc'
  obtain ⟨⟨h1, h2⟩, h3⟩ := hc'
  refine PS_imp (ps_asg ((sE e).pe C.C h3) (pg_ok C.C.tg (t := .tup ts) (e := .Tuple es k p) h1) (sw_tup es k p _) (ss_notTup h2 es k p) rfl) fun D σ H ⟨G0, H0, st0, G, env, st, I, q⟩ => ?_
  unfold exC at q
  refine (Sl.start I).bindF q fun r st1 G1 H1 w p1 a1 ro q => ?_
  rw [wpM_bind] at q
  obtain ⟨env', e1, q⟩ := wpM_ofO q
  have e1 : asgT (.tup ts) r.1 env = some env' := e1
  rw [asgT_eq] at e1
  cases e2 : asgP (.tup ts) r.1 with
  | none => rw [e2] at e1; cases e1
  | some ps =>
    rw [e2] at e1
    cases e1
    exact ⟨G1, r.1, ps, ro, e2, fun us hus => q G1 H1 _ (p1.s.puts hus) p1.n⟩
/-! ### several at once -/
inductive RsOk (K : KX) (Hb : Hp) (G : Gh) (H : Hp) : List V → List (PV × Bool) → Prop where
  | nil : RsOk K Hb G H [] []
  | cons {v : V} {r : PV × Bool} {vs : List V} {rs : List (PV × Bool)} : ResOk K Hb G H v r.1 r.2 → (r.2 = true → ∀ (j : Nat) (w : V) (r' : PV × Bool), vs[j]? = some w → rs[j]? = some r' → r'.2 = true → w ≠ v) → RsOk K Hb G H vs rs → RsOk K Hb G H (v :: vs) (r :: rs)
section
variable {K : KX} {G0 G G1 G2 : Gh} {H0 H H1 H2 Hb : Hp} {st0 st st1 st2 : S} {env : Envi} {σ : L2.St}
theorem ResOk.mono {v : V} {x : PV} {fr : Bool} (w : Wr G H st) (a : After G H st1 G1 H1) (r : ResOk K Hb G H v x fr) : ResOk K Hb G1 H1 v x fr := by
  unfold ResOk at r ⊢
  cases fr with
  | false =>
    rw [if_neg Bool.false_ne_true] at r ⊢
    exact r.mono w a.le a.keep
  | true =>
    rw [if_pos rfl] at r ⊢
    obtain ⟨p, vs, xs, e1, e2, m, l, hn, h, rs⟩ := r
    exact ⟨p, vs, xs, e1, e2, a.le.not_mut h m, a.le.not_L h l, hn, a.keep _ _ m h, rs.mono w a.le a.keep⟩
theorem RsOk.weaken (h : ∀ p : Addr, Hb p = none → H0 p = none) : ∀ {vs : List V} {rs : List (PV × Bool)}, RsOk K Hb G H vs rs → RsOk K H0 G H vs rs
  | _, _, .nil => .nil
  | _, _, .cons a d b => .cons (by
      unfold ResOk at a ⊢
      split at a
      · obtain ⟨p, vs, xs, e1, e2, m, l, hn, q⟩ := a
        rename_i hh
        rw [if_pos hh]
        exact ⟨p, vs, xs, e1, e2, m, l, h p hn, q⟩
      · rename_i hh
        rw [if_neg hh]
        exact a) d (RsOk.weaken h b)
theorem RsOk.fresh : ∀ {vs : List V} {rs : List (PV × Bool)}, RsOk K Hb G H vs rs → ∀ {j : Nat} {w : V} {r : PV × Bool}, vs[j]? = some w → rs[j]? = some r → r.2 = true → ∃ p, w = .ref p ∧ Hb p = none
  | _, _, .cons a d b, 0, w, r, h1, h2, h3 => by
    cases h1
    cases h2
    unfold ResOk at a
    rw [if_pos h3] at a
    obtain ⟨p, vs, xs, e1, e2, m, l, hn, q⟩ := a
    exact ⟨p, e1, hn⟩
  | _, _, .cons a d b, j + 1, w, r, h1, h2, h3 => RsOk.fresh b (j := j) (by simpa using h1) (by simpa using h2) h3
theorem SInv.putRs : ∀ {is : List Nat} {rs : List (PV × Bool)} {vs : List V} {env env' : Envi} {σ : L2.St}, SInv K G0 H0 st0 G H st env σ → RsOk K Hb G H vs rs → (∀ p : Addr, Hb p = none → H0 p = none) →
    (∀ (j : Nat) (y : PV) (p : Addr), env[j]? = some (some (y, true)) → σ[j]? = some (some (V.ref p)) → ∀ (k : Nat) (r : PV × Bool), rs[k]? = some r → r.2 = true → vs[k]? ≠ some (V.ref p)) → GB.putRs is rs env = some env' → SInv K G0 H0 st0 G H st env' (setA (is.zip vs) σ)
  | [], [], _, env, env', σ, I, .nil, _, _, e => by cases e; exact I
  | [], _ :: _, _, _, _, _, _, _, _, _, e => nomatch e
  | _ :: _, [], _, _, _, _, _, _, _, _, e => nomatch e
  | i :: is, r :: rs, _, env, env', σ, I, .cons (v := v) (vs := vs) a d b, hb, f, e => by
    have I' : SInv K G0 H0 st0 G H st (env.set i (some r)) (σ.set i (some v)) := by
      have a' := a
      unfold ResOk at a
      cases hr : r.2 with
      | false =>
        rw [hr, if_neg Bool.false_ne_true] at a
        have : r = (r.1, false) := by rw [← hr]
        rw [this]
        exact I.put i a
      | true =>
        rw [hr, if_pos rfl] at a
        obtain ⟨p, us, xs, e1, e2, m, l, hn, h, rs'⟩ := a
        have : r = (.lst xs, true) := by rw [← e2, ← hr]
        rw [this, e1]
        refine I.putOwn i m l h rs' (hb p hn) fun j y h1 h2 => ?_
        exact f j y p h1 h2 0 r rfl hr (by rw [← e1]; rfl)
    refine SInv.putRs (is := is) I' b hb (fun j y p h1 h2 k r' hk hr' hv => ?_) e
    rcases set_key h1 with ⟨hj, e1, hlen⟩ | ⟨hj, h1⟩
    · cases e1
      subst hj
      rw [List.getElem?_set_self (by rw [← I.e.len]; exact hlen)] at h2
      cases h2
      exact d rfl k _ r' hv hk hr' rfl
    · rw [set_out hj] at h2
      exact f j y p h1 h2 (k + 1) r' (by simpa using hk) hr' (by simpa using hv)
end
def TAr (K : KX) (ec : Nat → Option Value) (Γ : Gam) (W : WX) (ms : Exs) : TA := fun σ H Q => ∃ G env st, Wr G H st ∧ EnvOk K G env σ H ∧
  wpM (evalR Γ ms env) st (fun rs st' => ∀ G' H' vs, After G H st' G' H' → RsOk K H G' H' vs rs → Q vs H') (EXC ec W σ G H)
theorem pa_r : ∀ {ms : Exs} {es : List Expr} {X : Cx} {W : WX} {sc csc : Scope}, Ctx ec T.FT T.GT T.MT T.CT Γ X W sc csc T.N → chkEs T sc ms es = true → PA X es (TAr X.kx ec Γ W ms)
  | .nil, [], X, W, sc, csc, C, _ => PA_imp pa_nil fun σ H Q ⟨G, env, st, w, eo, q⟩ => by
    unfold evalR at q
    exact q G H [] (After.refl w) .nil
  | .nil, _ :: _, X, W, sc, csc, C, hc => by unfold chkEs at hc; cases hc
  | .cons _ _, [], X, W, sc, csc, C, hc => by unfold chkEs at hc; cases hc
  | .cons m ms, e :: es, X, W, sc, csc, C, hc => by
    unfold chkEs at hc
    simp only [Bool.and_eq_true] at hc
    obtain ⟨⟨h1, h2⟩, h3⟩ := hc
    refine PA_imp (pa_cons ((sE m).pe C h2) (pa_r C h3) (star_cons h1)) fun σ H Q ⟨G, env, st, w, eo, q⟩ => ?_
    unfold evalR at q
    refine (Pl.start w eo).bindE q fun r st1 G1 H1 v p1 a1 ro q => ?_
    rw [wpM_bind] at q
    refine ⟨G1, env, st1, p1.a.wr, p1.ev, wpM_mono q (fun rs st2 q G2 H2 vs a2 rr => ?_) fun kk st2 q => EXC.mono p1.w p1.a q⟩
    refine q G2 H2 (v :: vs) (p1.a.trans w a2) (.cons (ro.mono p1.a.wr a2) (fun hr j u r' hj hk hr' z => ?_) (rr.weaken fun p hp => p1.a.keep.dom w p1.a.le p1.a.wr hp))
    obtain ⟨p, e1, hp⟩ := rr.fresh hj hk hr'
    unfold ResOk at ro
    rw [if_pos hr] at ro
    obtain ⟨p', _, _, e2, _, _, _, _, h', _⟩ := ro
    rw [e1, e2] at z
    cases z
    rw [hp] at h'
    cases h'
theorem pgs_names {X : Cx} {W : WX} {sc : Scope} (C : Ctx ec T.FT T.GT T.MT T.CT Γ X W sc sc T.N) : ∀ {is : List Nat} {es : List Expr}, chkNs T sc is es = true → PGs X es (fun vs σ H Q => vs.length = is.length ∧ Q (setA (is.zip vs) σ) H) ∧ (assignEach es X.env).length = is.length ∧ (assignEach es X.env).findIdx? (·.1) = none
  | [], [], _ => ⟨⟨fun pins s σ H vs us Q I r h => pgs_nil.run pins s σ H vs us Q I r (by
      obtain ⟨h1, h2⟩ := h
      cases vs with
      | nil => exact ⟨rfl, h2⟩
      | cons _ _ => cases h1)⟩, rfl, rfl⟩
  | i :: is, e :: es, h => by
    cases e <;> try exact nomatch (show false = true from h)
    rename_i x p
    have h' : (nameB T sc i x && chkNs T sc is es) = true := h
    rw [Bool.and_eq_true] at h'
    obtain ⟨nd, hi, hl, hf, _⟩ := nameB_ok C h'.1
    obtain ⟨R1, R2, R3⟩ := pgs_names C h'.2
    have ae : assignEach (.Name x p :: es) X.env = (false, assign (.Name x p) X.env) :: assignEach es X.env := rfl
    refine ⟨⟨fun pins s σ H vs us Q I r h => (pgs_cons (pg_name nd hi hl hf) R1 rfl).run pins s σ H vs us Q I r ?_⟩, ?_, ?_⟩
    · obtain ⟨h1, h2⟩ := h
      cases vs with
      | nil => cases h1
      | cons v vs => exact ⟨v, vs, rfl, by simpa using h1, h2⟩
    · rw [ae, List.length_cons, R2, List.length_cons]
    · rw [ae, List.findIdx?_cons]
      simp [R3]
  | [], _ :: _, h => by unfold chkNs at h; cases h
  | _ :: _, [], h => by unfold chkNs at h; cases h
theorem swN_ok {env : PySem.Env} (hk : env.scope.kind = .function) {ts vs : List Expr} {r : Option (List Str)} (h : swN env.scope ts vs = some r) (k k2 : Nat) (p p2 : Pos) : swappedStores [.Tuple ts k p] (.Tuple vs k2 p2) env = pure r := by
  have hb : env.blockKind = .function := by unfold Env.blockKind; rw [hk]; rfl
  unfold swN at h
  dsimp only at h
  unfold swappedStores
  have e0 : (env.blockKind != ScopeKind.function) = false := by rw [hb]; rfl
  simp only [e0, Bool.or_false]
  split at h
  · rename_i h1
    cases h
    exact if_pos h1
  · rename_i h1
    refine (if_neg h1).trans ?_
    try simp only [pure_bind]
    split at h
    · rename_i h2
      cases h
      exact if_pos h2
    · rename_i h2
      refine (if_neg h2).trans ?_
      try simp only [pure_bind]
      split at h
      · rename_i h3
        cases h
        exact if_pos h3
      · rename_i h3
        refine (if_neg h3).trans ?_
        try simp only [pure_bind]
        split at h
        · rename_i h4
          cases h
          exact if_pos h4
        · rename_i h4
          refine (if_neg h4).trans ?_
          try simp only [pure_bind]
          split at h
          · cases h
          · rename_i h5
            cases h
            exact if_neg h5
theorem isLoc_ok {sc : Scope} {x : Str} (h : isLoc sc x = true) : sc.names.lookup x = some .local := by
  unfold isLoc at h
  split at h
  · assumption
  · cases h
theorem evalR_len : ∀ {ms : Exs} {env : Envi} {st : S} {ok : List (PV × Bool) → S → Prop} {ex : Nat → S → Prop}, wpM (evalR Γ ms env) st ok ex → wpM (evalR Γ ms env) st (fun xs st' => xs.length = ms.len ∧ ok xs st') ex
  | .nil, env, st, ok, ex, h => by
    unfold evalR at h ⊢
    exact ⟨rfl, h⟩
  | .cons m ms, env, st, ok, ex, h => by
    unfold evalR at h ⊢
    rw [wpM_bind] at h ⊢
    refine wpM_mono h (fun r st1 h => ?_) fun _ _ z => z
    rw [wpM_bind] at h ⊢
    exact wpM_mono (evalR_len h) (fun xs st2 ⟨e, h⟩ => ⟨by show xs.length + 1 = ms.len + 1; rw [e], h⟩) fun _ _ z => z
theorem RsOk.length {K : KX} {G : Gh} {H Hb : Hp} : ∀ {vs : List V} {rs : List (PV × Bool)}, RsOk K Hb G H vs rs → vs.length = rs.length
  | _, _, .nil => rfl
  | _, _, .cons _ _ b => congrArg (· + 1) (RsOk.length b)
theorem sS_par {is : List Nat} {ms : Exs} : SS ec Γ T XT n (.par is ms) := fun s X W sc C hc => by
  cases s <;> try exact nomatch (show false = true from hc)
  rename_i tl v pos
  rcases tl with _ | ⟨t, _ | ⟨_, _⟩⟩ <;> (try cases t) <;> (try cases v) <;> try exact nomatch (show false = true from hc)
  rename_i ts k p es k2 p2
  have hc' : (chkNs T sc is ts && chkEs T sc ms es && parB sc is ts es && decide (es.length ≤ 100000) && decide (is.length = es.length)) = true := hc
  simp only [Bool.and_eq_true] at hc'
  obtain ⟨⟨⟨⟨h1, h2⟩, h3⟩, h4⟩, h5⟩ := hc'
  have h5 := of_decide_eq_true h5
  -- what stands behind the values
  have key : ∀ {D : Ends} {σ : L2.St} {H : Hp}, TSv X.kx ec W (exC Γ n (.par is ms)) D σ H → TAr X.kx ec Γ W ms σ H (fun vs H1 => vs.length = es.length ∧ D.nx (setA (is.zip vs) σ) H1 ∧ ∀ p, H1 p = none → D.nx (setA (is.zip vs) σ) (upd H1 p (.tup vs))) := fun {D σ H} ⟨G0, H0, st0, G, env, st, I, q⟩ => by
    unfold exC at q
    rw [wpM_bind] at q
    refine ⟨G, env, st, I.wr, I.e, wpM_mono (evalR_len q) (fun rs st1 ⟨el, q⟩ G1 H1 vs a rr => ?_) fun kk st2 q => EXS.exc I q⟩
    rw [wpM_bind] at q
    obtain ⟨env', e1, q⟩ := wpM_ofO q
    have I1 := I.step a
    have own : ∀ (j : Nat) (y : PV) (p : Addr), env[j]? = some (some (y, true)) → σ[j]? = some (some (V.ref p)) → ∀ (k : Nat) (r : PV × Bool), rs[k]? = some r → r.2 = true → vs[k]? ≠ some (V.ref p) := fun j y p h1 h2 k r h3 h4 h5 => by
      obtain ⟨p', e2, hp⟩ := rr.fresh h5 h3 h4
      cases e2
      obtain ⟨q', _, _, e3, _, _, _, e4, _⟩ := I.e.ow j y h1
      rw [h2] at e3
      cases e3
      rw [hp] at e4
      cases e4
    have I2 := I1.putRs rr (fun p hp => I.a.keep.dom I.w0 I.a.le I.wr hp) own e1
    refine ⟨by rw [rr.length, el, chkEs_len h2], q G1 H1 _ I2 (a.nw I.wr), fun p hp => ?_⟩
    have b : After G1 H1 st1 G1 (L2.upd H1 p (.tup vs)) := After.tup a.wr hp
    exact q G1 _ _ (I2.step b) ((a.nw I.wr).go (b.nw a.wr))
  refine ⟨fun pins s σ H D I q => ?_⟩
  have hk := I.ok.kind
  unfold parB at h3
  cases hw : swN sc ts es with
  | none => rw [hw] at h3; cases h3
  | some o =>
    rw [hw] at h3
    rw [← C.C.hsc] at hw
    have sw := swN_ok hk hw k k2 p p2
    cases o with
    | none =>
      obtain ⟨R1, R2, R3⟩ := pgs_names C.C h1
      refine (ps_asg (pe_tup (pa_r C.C h2)) (pg_tup C.C.calm R1 R2 R3) (sw_tup ts k p _) sw rfl).run pins s σ H D I ?_
      obtain ⟨G, env, st, w, eo, q⟩ := key q
      refine ⟨G, env, st, w, eo, wpM_mono q (fun rs st' q G' H' vs a rr => ?_) fun _ _ z => z⟩
      obtain ⟨e1, _, e3⟩ := q G' H' vs a rr
      refine ⟨by rw [e1]; exact lim_small (of_decide_eq_true h4), fun p hp => ⟨p, vs, rfl, SqT.of upd_same, by rw [e1, h5], by rw [e1, h5], e3 p hp⟩⟩
    | some names =>
      dsimp only at h3
      have fin : TAr X.kx ec Γ W ms σ H (fun vs H1 => vs.length = es.length ∧ D.nx (setA (is.zip vs) σ) H1) := by
        obtain ⟨G, env, st, w, eo, q⟩ := key q
        exact ⟨G, env, st, w, eo, wpM_mono q (fun rs st' q G' H' vs a rr => ⟨(q G' H' vs a rr).1, (q G' H' vs a rr).2.1⟩) fun _ _ z => z⟩
      split at h3
      · rename_i i j x px y py x' y' _
        simp only [Bool.and_eq_true] at h3
        obtain ⟨⟨⟨⟨a1, a2⟩, a3⟩, a4⟩, a5⟩ := h3
        have a1 := of_decide_eq_true a1
        have a2 := of_decide_eq_true a2
        have a3 := of_decide_eq_true a3
        subst a2 a3
        have h1' : (nameB T sc i x && (nameB T sc j y && true)) = true := h1
        simp only [Bool.and_eq_true] at h1'
        obtain ⟨nd, hi, _, _, _⟩ := nameB_ok C.C h1'.1
        obtain ⟨_, hj, _, _, _⟩ := nameB_ok C.C h1'.2.1
        rcases es with _ | ⟨e1, _ | ⟨e2, _ | ⟨_, _⟩⟩⟩ <;> try (exfalso; simp at h5; done)
        refine (ps_par C.C.calm nd hi hj a1 (by rw [C.C.hsc]; exact isLoc_ok a4) (by rw [C.C.hsc]; exact isLoc_ok a5) (pa_r C.C h2) sw rfl).run pins s σ H D I ?_
        obtain ⟨G, env, st, w, eo, q⟩ := fin
        refine ⟨G, env, st, w, eo, wpM_mono q (fun rs st' q G' H' vs a rr => ?_) fun _ _ z => z⟩
        obtain ⟨e1, e2⟩ := q G' H' vs a rr
        rcases vs with _ | ⟨v, _ | ⟨u, _ | ⟨_, _⟩⟩⟩ <;> try (exfalso; simp at e1; done)
        exact ⟨v, u, rfl, e2⟩
      · rename_i i j l x px y py z pz x' y' z' _
        simp only [Bool.and_eq_true] at h3
        obtain ⟨⟨⟨⟨⟨⟨⟨⟨a1, a1'⟩, a1''⟩, a2⟩, a3⟩, a3'⟩, a4⟩, a5⟩, a6⟩ := h3
        have a1 := of_decide_eq_true a1
        have a1' := of_decide_eq_true a1'
        have a1'' := of_decide_eq_true a1''
        have a2 := of_decide_eq_true a2
        have a3 := of_decide_eq_true a3
        have a3' := of_decide_eq_true a3'
        subst a2 a3 a3'
        have h1' : (nameB T sc i x && (nameB T sc j y && (nameB T sc l z && true))) = true := h1
        simp only [Bool.and_eq_true] at h1'
        obtain ⟨nd, hi, _, _, _⟩ := nameB_ok C.C h1'.1
        obtain ⟨_, hj, _, _, _⟩ := nameB_ok C.C h1'.2.1
        obtain ⟨_, hl, _, _, _⟩ := nameB_ok C.C h1'.2.2.1
        rcases es with _ | ⟨e1, _ | ⟨e2, _ | ⟨e3, _ | ⟨_, _⟩⟩⟩⟩ <;> try (exfalso; simp at h5; done)
        refine (ps_par3 C.C.calm nd hi hj hl a1 a1' a1'' (by rw [C.C.hsc]; exact isLoc_ok a4) (by rw [C.C.hsc]; exact isLoc_ok a5) (by rw [C.C.hsc]; exact isLoc_ok a6) (pa_r C.C h2) sw rfl).run pins s σ H D I ?_
        obtain ⟨G, env, st, w, eo, q⟩ := fin
        refine ⟨G, env, st, w, eo, wpM_mono q (fun rs st' q G' H' vs a rr => ?_) fun _ _ z => z⟩
        obtain ⟨e1, e2⟩ := q G' H' vs a rr
        rcases vs with _ | ⟨v, _ | ⟨u, _ | ⟨t, _ | ⟨_, _⟩⟩⟩⟩ <;> try (exfalso; simp at e1; done)
        exact ⟨v, u, t, rfl, e2⟩
      · cases h3
end
end GB

/-! GStmC: lists written; return; raise. -/
namespace GB
open PySem PySem.Spec PyProof.Rows L2
section
variable {ec : Nat → Option Value} {Γ : Gam} {T : Tb} {XT : Nat → Option Str} {n : Nat}
theorem get_list {X : Cx} : PGet X (rIxL X.K) := by
  intro pins s σ H x y v u Q I rx ry h
  obtain ⟨p, xs, i, z, rfl, rfl, hq, he, q⟩ := h
  cases rx
  obtain ⟨t, rfl⟩ := ry
  obtain ⟨its, r, pl, hz⟩ := I.list hq
  obtain ⟨j, h1, h2, h3, h4, h5⟩ := atI_get he
  obtain ⟨w, ew, rw'⟩ := r.get h2
  have hl := r.length
  have hn := line63
  have fin : EP X pins σ Q w s := ⟨z, H, I, rw', q⟩
  by_cases h0 : 0 ≤ i
  · have hj : i.toNat = j := by
      rw [seqIndex_of h0 h5] at h1
      exact Option.some.inj h1
    exact wpAny_getItem_list pl.isList h0 (by omega) (by rw [hj]; simpa using ew) fin
  · have hj : (i + (its.toArray.size : Int)).toNat = j := by
      rw [seqIndex_neg (by omega) h4] at h1
      rw [List.size_toArray, ← hl]
      exact Option.some.inj h1
    exact wpAny_getItem_list_neg pl.isList (by omega) (by rw [List.size_toArray] <;> omega) (by omega) (by rw [hj]; simpa using ew) fin
theorem ownL_some {env : Envi} {i : Nat} {xs : List PV} (h : ownL env i = some xs) : env[i]? = some (some (.lst xs, true)) := by
  unfold ownL at h
  split at h
  · cases h; assumption
  · cases h
theorem sS_seti {i : Nat} {ix e : Ex} : SS ec Γ T XT n (.seti i ix e) := fun s X W sc C hc => by
  cases s <;> try exact nomatch (show false = true from hc)
  rename_i tl v pos
  rcases tl with _ | ⟨t, tl⟩ <;> try exact nomatch (show false = true from hc)
  cases t <;> try exact nomatch (show false = true from hc)
  rename_i o s p
  cases o <;> try exact nomatch (show false = true from hc)
  rename_i x px
  cases tl <;> try exact nomatch (show false = true from hc)
  have hc' : (nameB T sc i x && notSlice s && chkE T sc ix s && chkE T sc e v) = true := hc
  simp only [Bool.and_eq_true] at hc'
  obtain ⟨⟨⟨h1, h2⟩, h3⟩, h4⟩ := hc'
  obtain ⟨_, _, _, _, pv⟩ := nameB_ok C.C h1
  have as : ∀ v, assign (.Subscript (.Name x px) s p) X.env v = (do
      let ov ← holding [v] (eval (.Name x px) X.env)
      let iv ← holding [v, ov] (eval s X.env)
      standAt p
      holding [v, ov, iv] (setItem ov iv v)
      release [v, ov, iv] []) := fun v => by cases s <;> first | rfl | cases h2
  refine PS_imp (ps_asg ((sE e).pe C.C h4) (pg_sub pv ((sE ix).lent C.C h3) set_list as) (sw_sub p _) (ss_sub p) rfl) fun D σ H ⟨G0, H0, st0, G, env, st, I, q⟩ => ?_
  unfold exC at q
  rw [wpM_bind] at q
  obtain ⟨xs, e1, q⟩ := wpM_ofO q
  have e1 := ownL_some e1
  refine (Sl.start I).bindF q fun r st1 G1 H1 w p1 a1 ro q => ?_
  obtain ⟨p0, _, g1, _⟩ := p1.s.upd e1
  refine ⟨.ref p0, g1, p1.bindB q fun y st2 G2 H2 u p2 a2 ru q => ?_⟩
  replace q := wpM_ofO q
  obtain ⟨z, e2, q⟩ := q
  obtain ⟨p', vs, g2, g3, g4, g5, g6, g7⟩ := p2.s.upd e1
  rw [g1] at g2
  cases g2
  split at e2
  · rename_i k hk
    split at e2
    · rename_i j hj
      cases e2
      cases y <;> try contradiction
      cases hk
      obtain ⟨I3, nw⟩ := g7 (vs.set j w) (xs.set j r.1) (Reps.set (ro.mono p1.s.wr a2.le a2.keep) j g4)
      exact ⟨p0, vs, k, j, rfl, ru.int, g3, by rw [g4.length]; exact hj, q G2 _ _ I3 (p2.n.go nw)⟩
    · cases e2
  · cases e2
theorem pip_ok {X : Cx} {op : BOp} {o : Operator} (h : opB op o = true) (h2 : addSub op = true) : PIp X o (fun x y H Q => ∃ i j z, x = .int i ∧ y = .int j ∧ binop op (.int i) (.int j) = some (.int z, false) ∧ Q (.int z) H) := by
  cases opB_ok h
  cases op <;> (try (exact absurd h2 Bool.false_ne_true))
  · intro pins s σ H x y v u Q I r1 r2 ⟨i, j, z, e1, e2, e3, q⟩
    cases e3
    exact ip_add pins s σ H x y v u Q I r1 r2 ⟨i, j, e1, e2, q⟩
  · intro pins s σ H x y v u Q I r1 r2 ⟨i, j, z, e1, e2, e3, q⟩
    cases e3
    exact ip_sub pins s σ H x y v u Q I r1 r2 ⟨i, j, e1, e2, q⟩
theorem binop_int {op : BOp} {i j : Int} {z : PV × Bool} (h2 : addSub op = true) (h : binop op (.int i) (.int j) = some z) : ∃ k, z = (.int k, false) := by
  cases op <;> first | exact absurd h2 Bool.false_ne_true | (cases h; exact ⟨_, rfl⟩)
theorem sS_aug {i : Nat} {op : BOp} {e : Ex} : SS ec Γ T XT n (.aug i op e) := fun s X W sc C hc => by
  cases s <;> try exact nomatch (show false = true from hc)
  rename_i t o v pos
  cases t <;> try exact nomatch (show false = true from hc)
  rename_i x px
  have hc' : (nameB T sc i x && opB op o && addSub op && chkE T sc e v) = true := hc
  simp only [Bool.and_eq_true] at hc'
  obtain ⟨⟨⟨h1, h2⟩, h3⟩, h4⟩ := hc'
  obtain ⟨nd, hi, hl, hf, _⟩ := nameB_ok C.C h1
  refine PS_imp (ps_aug nd hi hl ((sE e).pe C.C h4) (pip_ok h2 h3) hf) fun D σ H ⟨G0, H0, st0, G, env, st, I, q⟩ => ?_
  unfold exC at q
  rw [wpM_bind] at q
  obtain ⟨old, e1, q⟩ := wpM_ofO q
  unfold getZ at e1
  split at e1
  · rename_i y hy
    cases e1
    obtain ⟨v0, g1, g2⟩ := I.e.fz i _ hy
    refine ⟨v0, g1, (Sl.start I).bindF q fun r st1 G1 H1 w p1 a1 ro q => ?_⟩
    rw [wpM_bind] at q
    replace q := wpM_ofO q
    obtain ⟨z, e2, q⟩ := q
    split at e2
    · rename_i i1 i2 hr
      cases g2
      rw [hr] at ro
      cases ro
      obtain ⟨k, rfl⟩ := binop_int h3 (hr ▸ e2)
      exact ⟨i1, i2, k, rfl, rfl, hr ▸ e2, q G1 H1 _ (p1.s.put i (.int k)) p1.n⟩
    · cases e2
  · cases e1
theorem sS_augi {i : Nat} {op : BOp} {ix e : Ex} : SS ec Γ T XT n (.augi i op ix e) := fun s X W sc C hc => by
  cases s <;> try exact nomatch (show false = true from hc)
  rename_i t o v pos
  cases t <;> try exact nomatch (show false = true from hc)
  rename_i nm s p
  cases nm <;> try exact nomatch (show false = true from hc)
  rename_i x px
  have hc' : (nameB T sc i x && notSlice s && opB op o && addSub op && chkE T sc ix s && chkE T sc e v) = true := hc
  simp only [Bool.and_eq_true] at hc'
  obtain ⟨⟨⟨⟨⟨h1, h2⟩, h3⟩, h4⟩, h5⟩, h6⟩ := hc'
  obtain ⟨_, _, _, _, pv⟩ := nameB_ok C.C h1
  have ha : ∀ ov iv new, augStore s ov iv new = (do holding [new, ov, iv] (setItem ov iv new); release [new, ov, iv] []; pure .next) := fun ov iv new => by cases s <;> first | rfl | cases h2
  refine PS_imp (ps_augS pv ((sE ix).lent C.C h5) get_list ((sE e).pe C.C h6) (pip_ok h3 h4) set_list ha) fun D σ H ⟨G0, H0, st0, G, env, st, I, q⟩ => ?_
  unfold exC at q
  rw [wpM_bind] at q
  obtain ⟨xs, e1, q⟩ := wpM_ofO q
  have e1 := ownL_some e1
  obtain ⟨p0, _, g1, _⟩ := I.upd e1
  refine ⟨.ref p0, g1, (Sl.start I).bindB q fun y st2 G2 H2 u p2 a2 ru q => ?_⟩
  rw [wpM_bind] at q
  replace q := wpM_ofO q
  obtain ⟨j, e2, q⟩ := q
  split at e2
  · rename_i k hk
    cases y <;> try contradiction
    cases hk
    rw [wpM_bind] at q
    replace q := wpM_ofO q
    obtain ⟨old, e3, q⟩ := q
    obtain ⟨p', vs, g2, g3, g4, g5, g6, g7⟩ := p2.s.upd e1
    rw [g1] at g2
    cases g2
    obtain ⟨vo, g8, g9⟩ := g4.get e3
    refine ⟨p0, vs, k, vo, rfl, ru.int, .inl (.inl g3), ?_, p2.bindF q fun r st3 G3 H3 w p3 a3 ro q => ?_⟩
    · unfold atI
      have : L2.ixN vs.length k = some j := by rw [g4.length]; exact e2
      rw [this]
      exact g8
    · rw [wpM_bind] at q
      replace q := wpM_ofO q
      obtain ⟨z, e4, q⟩ := q
      obtain ⟨p', vs', g2', g3', g4', g5', g6', g7'⟩ := p3.s.upd e1
      rw [g1] at g2'
      cases g2'
      rw [a3.keep _ _ g5 g3] at g3'
      cases g3'
      split at e4
      · rename_i i1 i2 hr
        cases g9
        rw [hr] at ro
        cases ro
        obtain ⟨m, rfl⟩ := binop_int h4 (hr ▸ e4)
        obtain ⟨I3, nw⟩ := g7' (vs.set j (.int m)) (xs.set j (.int m)) (Reps.set (.int m) j g4')
        exact ⟨i1, i2, m, rfl, rfl, hr ▸ e4, p0, vs, k, j, rfl, ru.int, a3.keep _ _ g5 g3, by rw [g4.length]; exact e2, q G3 _ _ I3 (p3.n.go nw)⟩
      · cases e4
  · cases e2
/-! ### methods of lists -/
theorem few1 {v : Expr} {env : PySem.Env} {cp : Pos} (h : notStar v = true) : ((backTo cp (starEach [v] env)).all (fun x => !x.1) && (backToKw cp (keywordEach [] env)).all (fun x => x.1.isSome)
      && decide (([v] : List Expr).length + ([] : List Keyword).length + (if ([] : List Keyword).isEmpty then 0 else 1) < 30)) = true := by
  rw [star_cons h]
  rfl
theorem sS_ext {i : Nat} {e : Ex} : SS ec Γ T XT n (.ext i e) := fun s X W sc C hc => by
  cases s <;> try exact nomatch (show false = true from hc)
  rename_i v pos
  cases v <;> try exact nomatch (show false = true from hc)
  rename_i f as ks cp
  cases f <;> try exact nomatch (show false = true from hc)
  rename_i o m ap
  cases o <;> try exact nomatch (show false = true from hc)
  rename_i x px
  rcases as with _ | ⟨v, _ | ⟨_, _⟩⟩ <;> cases ks <;> try exact nomatch (show false = true from hc)
  have hc' : (decide (m = "extend") && nameB T sc i x && ap.endLine == cp.line && notStar v && chkE T sc e v) = true := hc
  simp only [Bool.and_eq_true] at hc'
  obtain ⟨⟨⟨⟨h1, h2⟩, h3⟩, h4⟩, h5⟩ := hc'
  have h1 := of_decide_eq_true h1
  subst h1
  obtain ⟨_, _, _, _, pv⟩ := nameB_ok C.C h2
  refine PS_imp (ps_expr (pe_bm PySem.F.plainAttrs_list PySem.F.slot_list_extend PySem.F.type_list_extend mt_extend pv (pa_cons ((sE e).lent C.C h5) pa_nil (star_cons h4)) rfl (few1 h4) h3 (star_cons h4) rfl) rfl) fun D σ H ⟨G0, H0, st0, G, env, st, I, q⟩ => ?_
  unfold exC at q
  rw [wpM_bind] at q
  obtain ⟨xs, e1, q⟩ := wpM_ofO q
  have e1 := ownL_some e1
  obtain ⟨p0, vs0, g1, g0, _⟩ := I.upd e1
  refine ⟨.ref p0, g1, .inl ⟨rfl, vs0, .inl (.inl g0)⟩, (Sl.start I).bindB q fun y st2 G2 H2 u p2 a2 ru q => ?_⟩
  obtain ⟨z, e2, q⟩ := wpM_ofO q
  obtain ⟨p', vs, g2, g3, g4, g5, g6, g7⟩ := p2.s.upd e1
  rw [g1] at g2
  cases g2
  cases y <;> try contradiction
  rename_i ys
  simp only at e2
  split at e2
  · rename_i hl
    cases e2
    obtain ⟨b, us, rfl, hb, mb, rb⟩ := ru.lst' p2.s.wr
    obtain ⟨I3, nw⟩ := g7 (vs ++ us) (xs ++ ys) (g4.append rb)
    exact ⟨p0, b, vs, us, rfl, rfl, g3, hb, by rw [g4.length, rb.length]; exact Nat.le_of_lt (lim_line hl), q G2 _ _ I3 (p2.n.go nw)⟩
  · cases e2
/-- the counting list one longer -/
theorem SInv.cntUp {K : KX} {G0 G : Gh} {H0 H : Hp} {st0 st : S} {env : Envi} {σ : L2.St} {p : Addr} {k : Nat} (I : SInv K G0 H0 st0 G H st env σ) (hc : G.ca = some p) (hk : st.cnt = some k) :
    H p = some (.lst (List.replicate k (.int 0))) ∧ SInv K G0 H0 st0 G (L2.upd H p (.lst (List.replicate (k + 1) (.int 0)))) { st with cnt := some (k + 1) } env σ ∧ Nw G H G (L2.upd H p (.lst (List.replicate (k + 1) (.int 0)))) { st with cnt := some (k + 1) } := by
  obtain ⟨n, e1, e2⟩ := I.wr.cnt_lst hc
  rw [hk] at e1
  cases e1
  have nl : ∀ q, G.L q → q ≠ p := fun q h z => I.wr.lm q h (by rw [z]; exact .inl hc)
  have no : ∀ q, G.om q → q ≠ p := fun q h z => I.wr.co p hc (by rw [← z]; exact h)
  have kl : KeepL G H (L2.upd H p (.lst (List.replicate (k + 1) (.int 0)))) := fun q o hq e => by
    by_cases hp : q = p
    · subst hp
      rw [e2] at e
      cases e
      rcases hq with hq | ⟨_, hq⟩ | ⟨_, _, hq⟩
      · exact absurd rfl (nl q hq)
      · cases hq
      · cases hq
    · rw [upd_ne hp]; exact e
  have ko : ∀ q o, G.om q → H q = some o → L2.upd H p (.lst (List.replicate (k + 1) (.int 0))) q = some o := fun q o hq e => by rw [upd_ne (no q hq)]; exact e
  have nw : Nw G H G (L2.upd H p (.lst (List.replicate (k + 1) (.int 0)))) { st with cnt := some (k + 1) } := by
    have b : Wb G (L2.upd H p (.lst (List.replicate (k + 1) (.int 0)))) { st with cnt := some (k + 1) } := by
      refine ⟨I.wr.lm, fun q hq => ?_, ⟨p, hc, upd_same⟩, I.wr.co, fun q hq => ?_⟩
      · rw [upd_ne (nl q hq)]
        exact I.wr.lt q hq
      · rw [upd_ne (no q hq)]
        exact I.wr.om q hq
    exact ⟨Gr.refl, kl, ⟨b, I.wr.ol, fun j o ov h1 h2 => (I.wr.ob j o ov h1 h2).gr Gr.refl kl ko fun _ z => z, I.wr.ds, I.wr.da⟩⟩
  refine ⟨e2, ⟨I.w0, ⟨I.a.le, fun q o hm e => ?_, nw.w⟩, ⟨I.e.kk, I.e.len, fun j y hj => ?_, fun j y hj => ?_, I.e.di⟩, I.fr⟩, nw⟩
  · by_cases hp : q = p
    · subst hp
      rcases I.a.le.mn q (.inl hc) with h | h
      · exact absurd h hm
      · rw [h] at e
        cases e
    · rw [upd_ne hp]
      exact I.a.keep q o hm e
  · obtain ⟨v, h1, h2⟩ := I.e.fz j y hj
    exact ⟨v, h1, h2.nw nw⟩
  · obtain ⟨q, us, zs, h1, h2, h3, h4, h5, h6⟩ := I.e.ow j y hj
    exact ⟨q, us, zs, h1, h2, h3, h4, by rw [upd_ne (fun z => h3 (by rw [z]; exact .inl hc))]; exact h5, h6.nw nw⟩
theorem sS_app {i : Nat} {e : Ex} : SS ec Γ T XT n (.app i e) := fun s X W sc C hc => by
  cases s <;> try exact nomatch (show false = true from hc)
  rename_i v pos
  cases v <;> try exact nomatch (show false = true from hc)
  rename_i f as ks cp
  cases f <;> try exact nomatch (show false = true from hc)
  rename_i o m ap
  cases o <;> try exact nomatch (show false = true from hc)
  rename_i x px
  rcases as with _ | ⟨v, _ | ⟨_, _⟩⟩ <;> cases ks <;> try exact nomatch (show false = true from hc)
  have hc' : (decide (m = "append") && nameB T sc i x && ap.endLine == cp.line && notStar v && chkE T sc e v) = true := hc
  simp only [Bool.and_eq_true] at hc'
  obtain ⟨⟨⟨⟨h1, h2⟩, h3⟩, h4⟩, h5⟩ := hc'
  have h1 := of_decide_eq_true h1
  subst h1
  obtain ⟨_, _, _, _, pv⟩ := nameB_ok C.C h2
  refine PS_imp (ps_expr (pe_bm PySem.F.plainAttrs_list PySem.F.slot_list_append PySem.F.type_list_append mt_append pv (pa_cons ((sE e).pe C.C h5) pa_nil (star_cons h4)) rfl (few1 h4) h3 (star_cons h4) rfl) rfl) fun D σ H ⟨G0, H0, st0, G, env, st, I, q⟩ => ?_
  unfold exC at q
  split at q
  · rename_i hz
    unfold getZ at hz
    split at hz
    · rename_i y hy
      cases hz
      obtain ⟨v0, g1, g2⟩ := I.e.fz i _ hy
      cases g2 with
      | @cnt p hca =>
        obtain ⟨k0, e0, e1⟩ := I.wr.cnt_lst hca
        refine ⟨.ref p, g1, .inl ⟨rfl, _, .inl (.inl e1)⟩, (Sl.start I).bindF q fun r st2 G2 H2 u p2 a2 ru q => ?_⟩
        unfold wpM at q
        split at q
        · exact q.elim
        · rename_i r' s' hq
          dsimp only at hq
          split at hq
          · rename_i k h1 h2
            split at hq
            case isFalse => cases hq
            rename_i hkl
            cases hq
            rw [h1] at ru
            cases ru
            obtain ⟨f1, f2, f3⟩ := p2.s.cntUp (a2.le.c _ hca) h2
            refine ⟨p, _, .int 0, rfl, rfl, f1, ?_, ?_⟩
            · rw [List.length_replicate]; exact lim_line (Nat.le_of_lt hkl)
            · have z := q G2 _ σ f2 (p2.n.go f3)
              rw [List.replicate_succ'] at z
              exact z
          · cases hq
        · rename_i k' s' hq
          dsimp only at hq
          split at hq
          · split at hq <;> cases hq
          · cases hq
    · cases hz
  · rw [wpM_bind] at q
    obtain ⟨xs, e1, q⟩ := wpM_ofO q
    have e1 := ownL_some e1
    obtain ⟨p0, vs0, g1, g0, _⟩ := I.upd e1
    refine ⟨.ref p0, g1, .inl ⟨rfl, vs0, .inl (.inl g0)⟩, (Sl.start I).bindF q fun r st2 G2 H2 u p2 a2 ru q => ?_⟩
    obtain ⟨p', vs, g2, g3, g4, g5, g6, g7⟩ := p2.s.upd e1
    rw [g1] at g2
    cases g2
    split at q
    · rename_i hl
      obtain ⟨I3, nw⟩ := g7 (vs ++ [u]) (xs ++ [r.1]) (g4.append (.cons ru .nil))
      exact ⟨p0, vs, u, rfl, rfl, g3, by rw [g4.length]; exact lim_line (Nat.le_of_lt hl), q G2 _ _ I3 (p2.n.go nw)⟩
    · exact q.elim
end
end GB

/-! GStmO: objects written. -/
namespace GB
open PySem PySem.Spec PyProof.Rows L2
section
variable {K : KX} {G0 G : Gh} {H0 H H' : Hp} {st0 st : S} {env : Envi} {σ : L2.St}
/-- an object is written at z -/
theorem SInv.chgO (I : SInv K G0 H0 st0 G H st env σ) {k : Nat} {og og' : OG} {ov ov' : OV} (b : ObIs G H st k og ov) (ea : og'.a = og.a) (edx : og'.dx = og.dx) (ec : og'.c = og.c) (ev : og'.v = og.v + 1) (z : Addr)
    (hz : z = og.a ∨ ∃ (i : Nat) (us : List V), og.vs[i]? = some (V.ref z) ∧ og.ws[i]? = some (some us)) (np : Addr → Prop) (hnp : ∀ p, np p → ¬ G.mut p ∧ ¬ G.L p ∧ ∃ us, H p = some (.lst us))
    (hn0 : ∀ p, np p → H0 p = none) (hne : ∀ p, np p → ∀ (j : Nat) (y : PV), env[j]? = some (some (y, true)) → σ[j]? ≠ some (some (V.ref p)))
    (kk : ∀ q u, q ≠ z → H q = some u → H' q = some u) (sh : (∃ vs, H' z = some (.lst vs)) ∨ (∃ C dx fs, H' z = some (.ins C dx fs)) ∨ ∃ φ, H' z = some (.ext φ))
    (li : ∀ (i : Nat) (p : Addr) (us : List V), og'.vs[i]? = some (V.ref p) → og'.ws[i]? = some (some us) → np p ∨ ∃ us0, og.vs[i]? = some (V.ref p) ∧ og.ws[i]? = some (some us0))
    (on : ∀ (i i' : Nat) (p : Addr) (us us' : List V), np p → og'.vs[i]? = some (V.ref p) → og'.ws[i]? = some (some us) → og'.vs[i']? = some (V.ref p) → og'.ws[i']? = some (some us') → i = i')
    (ok : ∀ G', Gr G G' → KeepL G H H' → (∀ p, G.om p → G'.om p) → (∀ p, np p → G'.om p) → OOk G' H' og' ov') :
    ∃ G', SInv K G0 H0 st0 G' H' { st with ob := st.ob.set k ov' } env σ ∧ Nw G H G' H' { st with ob := st.ob.set k ov' } := by
  have oz : G.om z := by
    rcases hz with rfl | ⟨i, us, h1, h2⟩
    · exact b.ok.oma
    · exact (b.ok.lat h1 h2).1
  have hk : k < G.oo.length := (List.getElem?_eq_some_iff.mp b.g).1
  have ool : OoLe G.oo (G.oo.set k og') := fun j o h => by
    by_cases hj : k = j
    · subst hj
      rw [b.g] at h
      cases h
      exact ⟨og', List.getElem?_set_self hk, ea, edx, ec, by omega, fun q => by omega⟩
    · exact ⟨o, by rw [List.getElem?_set_ne hj]; exact h, rfl, rfl, rfl, Nat.le_refl _, fun _ => rfl⟩
  have kl : KeepL G H H' := fun q u h e => by
    refine kk q u (fun qz => ?_) e
    subst qz
    rcases h with h | h
    · exact I.wr.lm q h (.inr oz)
    · exact I.wr.mut_sh (.inr oz) e h
  obtain ⟨c1, c2, c3, c4⟩ := I.wr.chgO (og' := og') (ov' := ov') b ea edx ec ev z hz np hnp kk sh li on (ok _ ⟨fun _ h => h, fun _ h => h, rfl, ool⟩ kl (fun _ h => .inl h) fun _ h => .inr h)
  have nw : Nw G H { G with oo := G.oo.set k og', om := fun p => G.om p ∨ np p } H' { st with ob := st.ob.set k ov' } := ⟨c2, c3, c1⟩
  refine ⟨{ G with oo := G.oo.set k og', om := fun p => G.om p ∨ np p }, ⟨I.w0, ⟨⟨I.a.le.l, I.a.le.ln, fun p h => (I.a.le.m p h).imp id .inl, fun p h => ?_, I.a.le.c, I.a.le.k, I.a.le.o.trans ool⟩, fun q u hm e => ?_, c1⟩, ⟨I.e.kk, I.e.len, fun i x h => ?_, fun i x h => ?_, I.e.di⟩, I.fr⟩, nw⟩
  · rcases h with h | h | h
    · exact I.a.le.mn p (.inl h)
    · exact I.a.le.mn p (.inr h)
    · exact .inr (hn0 p h)
  · refine kk q u (fun qz => ?_) (I.a.keep q u hm e)
    subst qz
    rcases I.a.le.mn q (.inr oz) with h | h
    · exact hm h
    · rw [h] at e
      cases e
  · obtain ⟨v, h1, h2⟩ := I.e.fz i x h
    exact ⟨v, h1, h2.nw nw⟩
  · obtain ⟨p, vs, xs, h1, h2, h3, h4, h5, h6⟩ := I.e.ow i x h
    refine ⟨p, vs, xs, h1, h2, fun m => ?_, h4, kk _ _ (fun qz => h3 (by rw [qz]; exact .inr oz)) h5, h6.nw nw⟩
    rcases m with m | m | m
    · exact h3 (.inl m)
    · exact h3 (.inr m)
    · exact hne p m i x h h1
end
section
variable {ec : Nat → Option Value} {Γ : Gam} {T : Tb} {XT : Nat → Option Str} {n : Nat}
theorem sS_asgz {i : Nat} {e : Ex} : SS ec Γ T XT n (.asgz i e) := fun s X W sc C hc => by
  cases s <;> try exact nomatch (show false = true from hc)
  rename_i ts v pos
  rcases ts with _ | ⟨t, _ | ⟨_, _⟩⟩ <;> (try cases t) <;> try exact nomatch (show false = true from hc)
  rename_i x p
  have hc' : (nameB T sc i x && chkE T sc e v) = true := hc
  rw [Bool.and_eq_true] at hc'
  obtain ⟨nd, hi, hl, hf, _⟩ := nameB_ok C.C hc'.1
  have fin : ∀ {D : Ends} {σ : L2.St} {H : Hp}, TSv X.kx ec W (exC Γ n (.asgz i e)) D σ H → tAsg (TEv X.kx ec Γ W e) (gName i) D σ H := fun {D σ H} ⟨G0, H0, st0, G, env, st, I, q⟩ => by
    unfold exC at q
    refine (Sl.start I).bindF q fun r st1 G1 H1 w p1 a1 ro q => ?_
    exact q G1 H1 _ (p1.s.put i ro) p1.n
  obtain ⟨h1, h2⟩ := chk_noSD hc'.2
  refine ⟨fun pins s σ H D I q => ?_⟩
  have sw := sw_name I.ok.kind h1 h2 x p pos.line
  cases hs : swv X.env.scope x p v with
  | false =>
    rw [hs] at sw
    exact (ps_set nd hi hl ((sE e).pe C.C hc'.2) sw hf).run pins s σ H D I (fin q)
  | true =>
    rw [hs] at sw
    cases v <;> try exact nomatch (show false = true from hs)
    have hs0 := hs
    unfold swv lcSw at hs
    simp only [Bool.and_eq_true, beq_iff_eq] at hs
    cases e <;> try exact nomatch (show false = true from hc'.2)
    exact (comp_imp C.C hc'.2 hi hs.1.1 sw).run pins s σ H D I (fin q)
theorem fsetP_ok {sc : Scope} {i j : Nat} {s : Stmt} {v : Expr} (h : fsetP T sc i j s = some v) : ∃ x f p ap pos, s = .Assign [.Attribute (.Name x p) f ap] v pos ∧ varB T sc i x = true ∧ fieldB T j f = true := by
  unfold fsetP at h
  split at h
  · split at h
    · rename_i hh
      cases h
      obtain ⟨x, f, p, ap, rfl, h1, h2⟩ := fldB_ok hh
      exact ⟨x, f, p, ap, _, rfl, h1, h2⟩
    · cases h
  · cases h
theorem sw_attr {v o : Expr} {env : PySem.Env} (f : Str) (p : Pos) (l : Nat) : swapsWith v (some (.Attribute o f p)) l env = pure false := by
  cases v <;> rfl
theorem setAt_some {α : Type} {xs ys : List α} {j : Nat} {x : α} (h : setAt xs j x = some ys) : (j < xs.length ∧ ys = xs.set j x) ∨ (j = xs.length ∧ ys = xs ++ [x]) := by
  unfold setAt at h
  split at h
  · cases h; exact .inl ⟨by assumption, rfl⟩
  · split at h
    · cases h; exact .inr ⟨by assumption, rfl⟩
    · cases h
theorem setAt_len {α β : Type} {xs ys : List α} {us : List β} {j : Nat} {x : α} {u : β} (hl : us.length = xs.length) (h : setAt xs j x = some ys) : ∃ ws, setAt us j u = some ws := by
  unfold setAt
  rcases setAt_some h with ⟨h1, _⟩ | ⟨h1, _⟩
  · exact ⟨_, if_pos (by omega)⟩
  · exact ⟨_, by rw [if_neg (by omega), if_pos (by omega)]⟩
theorem setAt_get {α : Type} {xs ys : List α} {j k : Nat} {x y : α} (h : setAt xs j x = some ys) (hk : ys[k]? = some y) : (k = j ∧ y = x) ∨ (k ≠ j ∧ xs[k]? = some y) := by
  rcases setAt_some h with ⟨h1, rfl⟩ | ⟨h1, rfl⟩
  · by_cases e : j = k
    · subst e
      rw [List.getElem?_set_self h1] at hk
      cases hk
      exact .inl ⟨rfl, rfl⟩
    · rw [List.getElem?_set_ne e] at hk
      exact .inr ⟨fun z => e z.symm, hk⟩
  · by_cases hlt : k < xs.length
    · rw [List.getElem?_append_left hlt] at hk
      exact .inr ⟨by omega, hk⟩
    · rw [List.getElem?_append_right (by omega)] at hk
      have : k - xs.length = 0 := by
        have := (List.getElem?_eq_some_iff.mp hk).1
        simp at this
        omega
      rw [this] at hk
      simp at hk
      exact .inl ⟨by omega, hk.symm⟩
theorem setAt_cons {α : Type} {a x : α} {as ys : List α} {j : Nat} (h : setAt (a :: as) (j + 1) x = some ys) : ∃ zs, setAt as j x = some zs ∧ ys = a :: zs := by
  unfold setAt at h ⊢
  simp only [List.length_cons] at h
  split at h
  · cases h
    exact ⟨_, if_pos (by omega), rfl⟩
  · split at h
    · cases h
      exact ⟨as ++ [x], by rw [if_neg (by omega), if_pos (by omega)], rfl⟩
    · cases h
/-- one field changed -/
theorem FReps.put {G : Gh} {H : Hp} {v : V} {w : Option (List V)} {x : PV} (h1 : FReps G H [v] [w] [x]) : ∀ {vs vs' : List V} {ws ws' : List (Option (List V))} {xs xs' : List PV} {j : Nat}, FReps G H vs ws xs → setAt vs j v = some vs' → setAt ws j w = some ws' → setAt xs j x = some xs' → FReps G H vs' ws' xs'
  | _, _, _, _, _, _, 0, .nil, a, b, c => by
    simp [setAt] at a b c
    subst a b c
    exact h1
  | _, _, _, _, _, _, j + 1, .nil, a, b, c => by simp [setAt] at a
  | _, _, _, _, _, _, 0, .val r n o t, a, b, c => by
    simp [setAt] at a b c
    subst a b c
    cases h1 with
    | val r' n' o' t' => exact .val r' n' o' t
    | lst m e r' o' t' => exact .lst m e r' o' t
  | _, _, _, _, _, _, 0, .lst m0 e0 r o t, a, b, c => by
    simp [setAt] at a b c
    subst a b c
    cases h1 with
    | val r' n' o' t' => exact .val r' n' o' t
    | lst m e r' o' t' => exact .lst m e r' o' t
  | _, _, _, _, _, _, j + 1, .val (vs := vs) (ws := ws) (xs := xs) r n o t, a, b, c => by
    have hl := t.len
    obtain ⟨xs2, e3, rfl⟩ := setAt_cons c
    obtain ⟨vs2, e1, rfl⟩ := setAt_cons a
    obtain ⟨ws2, e2, rfl⟩ := setAt_cons b
    exact .val r n o (FReps.put h1 t e1 e2 e3)
  | _, _, _, _, _, _, j + 1, .lst (vs := vs) (ws := ws) (xs := xs) m e r o t, a, b, c => by
    have hl := t.len
    obtain ⟨xs2, e3, rfl⟩ := setAt_cons c
    obtain ⟨vs2, e1, rfl⟩ := setAt_cons a
    obtain ⟨ws2, e2, rfl⟩ := setAt_cons b
    exact .lst m e r o (FReps.put h1 t e1 e2 e3)
theorem sS_fset {i j : Nat} {e : Ex} : SS ec Γ T XT n (.fset i j e) := fun s X W sc C hc => by
  have hc : (match fsetP T sc i j s with | some v => chkE T sc e v | none => false) = true := hc
  split at hc
  case h_2 => cases hc
  rename_i v hv
  have hcm := hc
  clear hc
  obtain ⟨x, f, p, ap, pos, rfl, h1, h2⟩ := fsetP_ok hv
  have F := fieldB_ok C.C h2
  refine PS_imp (ps_fld (varB_ok C.C h1) ((sE e).pe C.C hcm) (sw_attr _ _ _)) fun D σ H ⟨G0, H0, st0, G, env, st, I, q⟩ => ?_
  unfold exC at q
  refine (Sl.start I).bindE q fun r st1 G1 H1 w p1 a1 ro q => ?_
  rw [wpM_bind] at q
  replace q := wp_objF p1.s.wr p1.s.e q
  obtain ⟨k, og, ov, g1, g2, b, g3, q⟩ := q
  simp only at q
  split at q
  · exact q.elim
  rename_i c1
  split at q
  · exact q.elim
  rename_i c2
  simp only [Bool.or_eq_true, decide_eq_true_eq, Bool.and_eq_true, Bool.not_eq_true', not_or, not_and] at c1 c2
  rw [wpM_bind] at q
  replace q := wpM_ofO q
  obtain ⟨xs', e1, q⟩ := q
  have hjl : j % 10 < (clsFlds (j / 10)).length := by omega
  obtain ⟨f1, f2, f3⟩ := b.fields p1.s.e.kk g3 F.lt
  obtain ⟨l1, l2⟩ := f3.len
  obtain ⟨vs', e2⟩ := setAt_len (u := w) l1 e1
  have nd := clsFlds_nd (j / 10)
  have ox : r.1.oLt 0 = true := by
    have := c2.2
    simpa using this
  refine ⟨_, g2, og.a, _, og.dx, _, rfl, f1, F.cc.cl, F.na, ?_, ?_⟩
  · rw [List.length_zip]
    have : (clsFlds (j / 10)).length ≤ 5 := by unfold clsFlds; split <;> decide
    omega
  rw [zip_put nd F.nm e2]
  have kk : ∀ (q : Addr) (u : HO), q ≠ og.a → H1 q = some u → L2.upd H1 og.a (.ins (He.ga X.K (clsName (j / 10))) og.dx ((clsFlds (j / 10)).zip vs')) q = some u := fun q u n e => by rw [upd_ne n]; exact e
  have done : ∀ (w' : Option (List V)) (ws' : List (Option (List V))) (np : Addr → Prop), setAt og.ws (j % 10) w' = some ws' → (∀ p, np p → ¬ G1.mut p ∧ ¬ G1.L p ∧ ∃ us, H1 p = some (.lst us)) → (∀ p, np p → H0 p = none) → (∀ p, np p → ∀ (j : Nat) (y : PV), env[j]? = some (some (y, true)) → σ[j]? ≠ some (some (V.ref p))) →
      (∀ us, w' = some us → ∃ p, w = .ref p ∧ np p) → (∀ p, np p → w = .ref p) → (∀ p, np p → ∀ (i : Nat) (us : List V), og.vs[i]? = some (V.ref p) → og.ws[i]? ≠ some (some us)) →
      (∀ G', Gr G1 G' → KeepL G1 H1 (L2.upd H1 og.a (.ins (He.ga X.K (clsName (j / 10))) og.dx ((clsFlds (j / 10)).zip vs'))) → (∀ p, np p → G'.om p) → FReps G' (L2.upd H1 og.a (.ins (He.ga X.K (clsName (j / 10))) og.dx ((clsFlds (j / 10)).zip vs'))) [w] [w'] [r.1]) →
      D.nx σ (L2.upd H1 og.a (.ins (He.ga X.K (clsName (j / 10))) og.dx ((clsFlds (j / 10)).zip vs'))) := fun w' ws' np e3 n1 n2 n3 n4 n5 n6 n7 => by
    obtain ⟨G', I', nw⟩ := p1.s.chgO (og' := { og with v := og.v + 1, vs := vs', ws := ws' }) (ov' := { ov with v := ov.v + 1, xs := xs' }) b rfl rfl rfl rfl og.a (.inl rfl) np n1 n2 n3 kk (.inr (.inl ⟨_, _, _, upd_same⟩))
      (fun i p us h1 h2 => by
        rcases setAt_get e3 h2 with ⟨z1, z2⟩ | ⟨z1, z2⟩
        · left
          obtain ⟨p', z3, z4⟩ := n4 us z2.symm
          rcases setAt_get e2 h1 with ⟨_, y2⟩ | ⟨y1, _⟩
          · rw [z3] at y2
            cases y2
            exact z4
          · exact absurd z1 y1
        · right
          rcases setAt_get e2 h1 with ⟨y1, _⟩ | ⟨_, y2⟩
          · exact absurd y1 z1
          · exact ⟨us, y2, z2⟩)
      (fun i i' p us us' hp h1 h2 h3 h4 => by
        have at1 : ∀ (i : Nat) (us : List V), vs'[i]? = some (V.ref p) → ws'[i]? = some (some us) → i = j % 10 := fun i us h h' => by
          rcases setAt_get e2 h with ⟨y1, _⟩ | ⟨y1, y2⟩
          · exact y1
          · rcases setAt_get e3 h' with ⟨z1, _⟩ | ⟨z1, z2⟩
            · exact z1
            · exact absurd z2 (n6 p hp i us y2)
        rw [at1 i us h1 h2, at1 i' us' h3 h4])
      (fun G' g kl om onp => ⟨b.ok.c, by show og.v + 1 = ov.v + 1; rw [b.ok.v], om _ b.ok.oma, by
        rw [if_neg (show ¬ og.c = 2 by rw [b.ok.c, g3]; omega)]
        refine ⟨?_, ?_, FReps.put (n7 G' g kl onp) (f3.gr2 g kl om fun i p us z1 z2 z3 => kk _ _ (fun z => ?_) z3) e2 e3 e1⟩
        · show L2.upd H1 og.a _ og.a = some (.ins (He.ga G'.k.K (clsName og.c)) og.dx ((clsFlds og.c).zip vs'))
          rw [upd_same, g.k, p1.s.e.kk, b.ok.c, g3]
        · show xs'.length ≤ (clsFlds og.c).length
          rw [b.ok.c, g3]
          rcases setAt_some e1 with ⟨z1, z2⟩ | ⟨z1, z2⟩
          · rw [z2, List.length_set]; exact f2
          · rw [z2, List.length_append, List.length_singleton]; omega
        · have := (b.ok.lat z1 z2).2
          rw [z, f1] at this
          cases this⟩)
    replace q : wpM (M.bind (putO k { ov with xs := xs' }) fun _ => M.ret (Fl.next, env)) st1 (OKS X.kx G0 H0 st0 G H D) (EXS ec W G0 H0) := q
    exact q G' _ σ I' (p1.n.go nw)
  unfold ResOk at ro
  cases hr : r.2 with
  | false =>
    rw [hr, if_neg Bool.false_ne_true] at ro
    have nl : r.1.isL = false := by
      cases hl : r.1.isL with
      | false => rfl
      | true =>
        exact absurd hr (c2.1 hl)
    obtain ⟨ws', e3⟩ := setAt_len (u := (none : Option (List V))) l2 e1
    exact done none ws' (fun _ => False) e3 (fun _ h => h.elim) (fun _ h => h.elim) (fun _ h => h.elim) (fun _ h => nomatch h) (fun _ h => h.elim) (fun _ h => h.elim)
      fun G' g kl _ => .val (by rw [g.k, p1.s.e.kk]; exact ro.gr g kl) nl ox .nil
  | true =>
    rw [hr, if_pos rfl] at ro
    obtain ⟨p0, us, ys, ew, ex, m, l, hn, hp0, rs⟩ := ro
    subst ew
    obtain ⟨ws', e3⟩ := setAt_len (u := (some us : Option (List V))) l2 e1
    have z0 : H0 p0 = none := I.a.keep.dom I.w0 I.a.le I.wr hn
    refine done (some us) ws' (fun p => p = p0) e3 (fun p h => by subst h; exact ⟨m, l, us, hp0⟩) (fun p h => by subst h; exact z0) (fun p h jj y hj z => ?_) (fun us' _ => ⟨p0, rfl, rfl⟩) (fun p h => by rw [h]) (fun p h ii uu z z' => ?_) fun G' g kl onp => ?_
    · subst h
      obtain ⟨q', _, _, e4, _, _, _, e5, _⟩ := I.e.ow jj y hj
      rw [z] at e4
      cases e4
      rw [hn] at e5
      cases e5
    · subst h
      exact m (.inr (b.ok.lat z z').1)
    · rw [ex]
      exact .lst (onp p0 rfl) (kk _ _ (fun z => by rw [z, f1] at hp0; cases hp0) hp0) (by rw [g.k, p1.s.e.kk]; exact rs.gr g kl) (by rw [ex] at ox; unfold PV.oLt at ox; exact ox) .nil
/-- a list field changed in place -/
theorem FReps.setL {G G' : Gh} {H H' : Hp} (g : Gr G G') (kl : KeepL G H H') (om : ∀ p, G.om p → G'.om p) {us' : List V} {ys' : List PV} : ∀ {vs : List V} {ws : List (Option (List V))} {xs : List PV} {j : Nat}, FReps G H vs ws xs →
    (∀ (i : Nat) (p : Addr) (us : List V), i ≠ j → vs[i]? = some (V.ref p) → ws[i]? = some (some us) → H p = some (.lst us) → H' p = some (.lst us)) → (∃ p, vs[j]? = some (V.ref p) ∧ G'.om p ∧ H' p = some (.lst us')) → Reps G'.k G' H' us' ys' → PV.oLts 0 ys' = true → FReps G' H' vs (ws.set j (some us')) (xs.set j (.lst ys'))
  | _, _, _, j, .nil, _, ⟨p, h, _⟩, _, _ => by simp at h
  | _, _, _, 0, .val r n o t, ko, ⟨p, h1, h2, h3⟩, rs, ol => by
    simp at h1
    subst h1
    exact .lst h2 h3 rs ol (t.gr2 g kl om fun i p us a b c => ko (i + 1) p us (by omega) (by simpa using a) (by simpa using b) c)
  | _, _, _, 0, .lst m0 e0 r o t, ko, ⟨p, h1, h2, h3⟩, rs, ol => by
    simp at h1
    subst h1
    exact .lst h2 h3 rs ol (t.gr2 g kl om fun i p us a b c => ko (i + 1) p us (by omega) (by simpa using a) (by simpa using b) c)
  | _, _, _, j + 1, .val r n o t, ko, ⟨p, h1, h2, h3⟩, rs, ol =>
    .val (by rw [g.k]; exact r.gr g kl) n o (t.setL g kl om (fun i p us hn a b c => ko (i + 1) p us (by omega) (by simpa using a) (by simpa using b) c) ⟨p, by simpa using h1, h2, h3⟩ rs ol)
  | _, _, _, j + 1, .lst m0 e0 r o t, ko, ⟨p, h1, h2, h3⟩, rs, ol =>
    .lst (om _ m0) (ko 0 _ _ (by omega) rfl rfl e0) (by rw [g.k]; exact r.gr g kl) o (t.setL g kl om (fun i p us hn a b c => ko (i + 1) p us (by omega) (by simpa using a) (by simpa using b) c) ⟨p, by simpa using h1, h2, h3⟩ rs ol)
/-- a list field of an object is written -/
theorem SInv.setF {X : Cx} {G0 G : Gh} {H0 H : Hp} {st0 st : S} {env : Envi} {σ : L2.St} (I : SInv X.kx G0 H0 st0 G H st env σ) {k j : Nat} {og : OG} {ov : OV} (b : ObIs G H st k og ov) (hc : ov.c = j / 10) (lt : j / 10 < 2) {p : Addr} {us us' : List V} {ys' : List PV}
    (h1 : og.vs[j % 10]? = some (V.ref p)) (h2 : og.ws[j % 10]? = some (some us)) (rs : Reps X.kx G H us' ys') (ol : PV.oLts 0 ys' = true) :
    ∃ G', SInv X.kx G0 H0 st0 G' (L2.upd H p (.lst us')) { st with ob := st.ob.set k { ov with v := ov.v + 1, xs := ov.xs.set (j % 10) (.lst ys') } } env σ ∧ Nw G H G' (L2.upd H p (.lst us')) { st with ob := st.ob.set k { ov with v := ov.v + 1, xs := ov.xs.set (j % 10) (.lst ys') } } := by
  obtain ⟨f1, f2, f3⟩ := b.fields I.e.kk hc lt
  obtain ⟨o1, o2⟩ := b.ok.lat h1 h2
  have kk : ∀ (q : Addr) (u : HO), q ≠ p → H q = some u → L2.upd H p (.lst us') q = some u := fun q u n e => by rw [upd_ne n]; exact e
  refine I.chgO (og' := { og with v := og.v + 1, ws := og.ws.set (j % 10) (some us') }) b rfl rfl rfl rfl p (.inr ⟨_, us, h1, h2⟩) (fun _ => False) (fun _ h => h.elim) (fun _ h => h.elim) (fun _ h => h.elim) kk (.inl ⟨_, upd_same⟩)
    (fun i q us0 a1 a2 => .inr ?_) (fun _ _ _ _ _ h => h.elim) fun G' g kl om _ => ⟨b.ok.c, by show og.v + 1 = ov.v + 1; rw [b.ok.v], om _ b.ok.oma, ?_⟩
  · by_cases hi : j % 10 = i
    · subst hi
      exact ⟨us, a1, h2⟩
    · have a2 : (og.ws.set (j % 10) (some us'))[i]? = some (some us0) := a2
      rw [List.getElem?_set_ne hi] at a2
      exact ⟨us0, a1, a2⟩
  · rw [if_neg (show ¬ og.c = 2 by rw [b.ok.c, hc]; omega)]
    refine ⟨?_, ?_, f3.setL g kl om (fun i q us0 hn a1 a2 a3 => kk _ _ (fun z => hn ?_) a3) ⟨p, h1, om _ o1, upd_same⟩ (by rw [g.k, I.e.kk]; exact rs.gr g kl) ol⟩
    · show L2.upd H p _ og.a = some (.ins (He.ga G'.k.K (clsName og.c)) og.dx ((clsFlds og.c).zip og.vs))
      rw [upd_ne (fun z => by rw [← z, f1] at o2; cases o2), f1, g.k, I.e.kk, b.ok.c, hc]
    · show (ov.xs.set (j % 10) (.lst ys')).length ≤ (clsFlds og.c).length
      rw [List.length_set, b.ok.c, hc]
      exact f2
    · subst z
      exact (I.wr.ds k k i (j % 10) og og q us0 us b.g b.g a1 a2 h1 h2).2
theorem oLts_set {n : Nat} {x : PV} (hx : x.oLt n = true) : ∀ {xs : List PV} {j : Nat}, PV.oLts n xs = true → PV.oLts n (xs.set j x) = true
  | [], _, h => h
  | y :: ys, 0, h => by
    unfold PV.oLts at h
    show PV.oLts n (x :: ys) = true
    unfold PV.oLts
    rw [Bool.and_eq_true] at h ⊢
    exact ⟨hx, h.2⟩
  | y :: ys, j + 1, h => by
    unfold PV.oLts at h
    show PV.oLts n (y :: ys.set j x) = true
    unfold PV.oLts
    rw [Bool.and_eq_true] at h ⊢
    exact ⟨h.1, oLts_set hx h.2⟩
theorem oLts_app {n : Nat} : ∀ {xs ys : List PV}, PV.oLts n xs = true → PV.oLts n ys = true → PV.oLts n (xs ++ ys) = true
  | [], _, _, h => h
  | y :: ys, _, h, h2 => by
    unfold PV.oLts at h
    rw [Bool.and_eq_true] at h
    show (PV.oLt n y && PV.oLts n (ys ++ _)) = true
    rw [h.1, oLts_app h.2 h2]
    rfl
theorem ObIs.flL {G : Gh} {H : Hp} {st : S} {k : Nat} {og : OG} {ov : OV} (b : ObIs G H st k og ov) {j : Nat} (hc : ov.c ≠ 2) {ys : List PV} (h : fldL ov j = some ys) : ∃ p us, og.vs[j % 10]? = some (V.ref p) ∧ og.ws[j % 10]? = some (some us) ∧ G.om p ∧ H p = some (.lst us) ∧ Reps G.k G H us ys ∧ PV.oLts 0 ys = true :=
  (b.ins hc).2.2.getL (fldL_some h)
theorem fsetiP_ok {sc : Scope} {i j : Nat} {s : Stmt} {kx v : Expr} (h : fsetiP T sc i j s = some (kx, v)) : ∃ x f p ap sp pos, s = .Assign [.Subscript (.Attribute (.Name x p) f ap) kx sp] v pos ∧ varB T sc i x = true ∧ fieldB T j f = true ∧ notSlice kx = true := by
  unfold fsetiP at h
  split at h
  · split at h
    · rename_i hh
      cases h
      rw [Bool.and_eq_true] at hh
      obtain ⟨x, f, p, ap, rfl, h1, h2⟩ := fldB_ok hh.1
      exact ⟨x, f, p, ap, _, _, rfl, h1, h2, hh.2⟩
    · cases h
  · cases h
theorem wpM_putO {k : Nat} {o : OV} {s : S} {ok : Unit → S → Prop} {ex : Nat → S → Prop} (h : wpM (putO k o) s ok ex) : ok () { s with ob := s.ob.set k { o with v := o.v + 1 } } := h
theorem sS_fseti {i j : Nat} {ix e : Ex} : SS ec Γ T XT n (.fseti i j ix e) := fun s X W sc C hc => by
  have hc : (match fsetiP T sc i j s with | some (k, v) => chkE T sc ix k && chkE T sc e v | none => false) = true := hc
  split at hc
  case h_2 => cases hc
  rename_i kx v hv
  have hcm := hc
  clear hc
  rw [Bool.and_eq_true] at hcm
  obtain ⟨x, f, p, ap, sp, pos, rfl, h1, h2, h3⟩ := fsetiP_ok hv
  have F := fieldB_ok C.C h2
  have as : ∀ v, assign (.Subscript (.Attribute (.Name x p) f ap) kx sp) X.env v = (do
      let ov ← holding [v] (eval (.Attribute (.Name x p) f ap) X.env)
      let iv ← holding [v, ov] (eval kx X.env)
      standAt sp
      holding [v, ov, iv] (setItem ov iv v)
      release [v, ov, iv] []) := fun v => by cases kx <;> first | rfl | cases h3
  refine ⟨fun pins s0 σ H D II ⟨G0, H0, st0, G, env, st, I, q⟩ => ?_⟩
  refine (ps_asg ((sE e).pe C.C hcm.2) (pg_sub (pe_lf (env := env) (W := W) (ec := ec) C.C h1 h2) ((sE ix).lent C.C hcm.1) set_list as) (sw_sub sp _) (ss_sub sp) rfl).run pins s0 σ H D II ?_
  unfold exC at q
  refine (Sl.start I).bindF q fun r st1 G1 H1 w p1 a1 ro q => ?_
  rw [wpM_bind] at q
  replace q := wp_objF p1.s.wr p1.s.e q
  obtain ⟨k, og, ov, g1, g2, b, g3, q⟩ := q
  rw [wpM_bind] at q
  replace q := wpM_ofO q
  obtain ⟨ys0, e0, q⟩ := q
  refine lf_of p1.s.wr p1.s.e F.lt b g3 g1 g2 e0 fun pp us v1 v2 _ _ _ => p1.bindB q fun y st2 G2 H2 u p2 a2 ru q => ?_
  rw [wpM_bind] at q
  replace q := wp_objF p2.s.wr p2.s.e q
  obtain ⟨k', og', ov', g1', g2', b', g3', q⟩ := q
  rw [g1] at g1'
  cases g1'
  simp only at q
  split at q
  case isFalse => exact q.elim
  rename_i hv'
  rw [wpM_bind] at q
  replace q := wpM_ofO q
  obtain ⟨ys', e1, q⟩ := q
  split at e1
  case h_2 => cases e1
  rename_i ys m hy hm
  split at e1
  case h_2 => cases e1
  rename_i jj hj
  cases e1
  cases y <;> try contradiction
  cases hm
  have ee := b.same b' a2.le.o hv'.1
  subst ee
  obtain ⟨pq, us2, w1, w2, w3, w4, w5, w6⟩ := b'.flL (by have := F.lt; omega) hy
  rw [v1] at w1
  cases w1
  rw [p2.s.e.kk] at w5
  obtain ⟨G', I', nw⟩ := p2.s.setF b' g3' F.lt v1 w2 (Reps.set (ro.mono p1.s.wr a2.le a2.keep) jj w5) (oLts_set hv'.2 w6)
  exact ⟨pp, us2, m, jj, rfl, ru.int, w4, by rw [w5.length]; exact hj, q G' _ _ I' (p2.n.go nw)⟩
theorem fappP_ok {sc : Scope} {i j : Nat} {s : Stmt} {v : Expr} (h : fappP T sc i j s = some v) : ∃ x f p ap mp cp pos, s = .Expr (.Call (.Attribute (.Attribute (.Name x p) f ap) ("append" : Str) mp) [v] [] cp) pos ∧ varB T sc i x = true ∧ fieldB T j f = true ∧ (mp.endLine == cp.line) = true ∧ notStar v = true := by
  unfold fappP at h
  split at h
  · split at h
    · rename_i hh
      cases h
      simp only [Bool.and_eq_true] at hh
      obtain ⟨⟨⟨h1, h2⟩, h3⟩, h4⟩ := hh
      have h1 := of_decide_eq_true h1
      subst h1
      obtain ⟨x, f, p, ap, rfl, h5, h6⟩ := fldB_ok h2
      exact ⟨x, f, p, ap, _, _, _, rfl, h5, h6, h3, h4⟩
    · cases h
  · cases h
theorem sS_fapp {i j : Nat} {e : Ex} : SS ec Γ T XT n (.fapp i j e) := fun s X W sc C hc => by
  have hc : (match fappP T sc i j s with | some v => chkE T sc e v | none => false) = true := hc
  split at hc
  case h_2 => cases hc
  rename_i v hv
  have hcm := hc
  clear hc
  obtain ⟨x, f, p, ap, mp, cp, pos, rfl, h1, h2, h3, h4⟩ := fappP_ok hv
  have F := fieldB_ok C.C h2
  refine ⟨fun pins s0 σ H D II ⟨G0, H0, st0, G, env, st, I, q⟩ => ?_⟩
  refine (ps_expr (pe_bm PySem.F.plainAttrs_list PySem.F.slot_list_append PySem.F.type_list_append mt_append (pe_lf (env := env) (W := W) (ec := ec) C.C h1 h2) (pa_cons ((sE e).pe C.C hcm) pa_nil (star_cons h4)) rfl (few1 h4) h3 (star_cons h4) rfl) rfl).run pins s0 σ H D II ?_
  unfold exC at q
  rw [wpM_bind] at q
  replace q := wp_objF I.wr I.e q
  obtain ⟨k, og, ov, g1, g2, b, g3, q⟩ := q
  rw [wpM_bind] at q
  replace q := wpM_ofO q
  obtain ⟨ys0, e0, q⟩ := q
  unfold tDrop tBM tCons
  refine lf_of I.wr I.e F.lt b g3 g1 g2 e0 fun pp us v1 v2 _ hp0 _ => ?_
  refine ⟨.inl ⟨rfl, us, .inl (.inl hp0)⟩, (Sl.start I).bindF q fun r st1 G1 H1 w p1 a1 ro q => ?_⟩
  rw [wpM_bind] at q
  replace q := wp_objF p1.s.wr p1.s.e q
  obtain ⟨k', og', ov', g1', g2', b', g3', q⟩ := q
  rw [g1] at g1'
  cases g1'
  simp only at q
  split at q
  case isFalse => exact q.elim
  rename_i hv'
  rw [wpM_bind] at q
  replace q := wpM_ofO q
  obtain ⟨ys', e1, q⟩ := q
  split at e1
  case h_2 => cases e1
  rename_i ys hy
  split at e1
  case isFalse => cases e1
  rename_i hl
  cases e1
  have ee := b.same b' a1.le.o hv'.1
  subst ee
  obtain ⟨pq, us2, w1, w2, w3, w4, w5, w6⟩ := b'.flL (by have := F.lt; omega) hy
  rw [v1] at w1
  cases w1
  rw [p1.s.e.kk] at w5
  obtain ⟨G', I', nw⟩ := p1.s.setF b' g3' F.lt v1 w2 (w5.append (.cons ro .nil)) (oLts_app w6 (by unfold PV.oLts; rw [hv'.2]; rfl))
  exact ⟨pp, us2, w, rfl, rfl, w4, by rw [w5.length]; exact lim_line (Nat.le_of_lt hl), q G' _ _ I' (p1.n.go nw)⟩
theorem dputP_ok {sc : Scope} {i : Nat} {s : Stmt} {kx v : Expr} (h : dputP T sc i s = some (kx, v)) : ∃ x p sp pos, s = .Assign [.Subscript (.Name x p) kx sp] v pos ∧ varB T sc i x = true ∧ notSlice kx = true ∧ notComp v = true := by
  unfold dputP at h
  split at h
  · split at h
    · rename_i hh
      cases h
      simp only [Bool.and_eq_true] at hh
      exact ⟨_, _, _, _, rfl, hh.1.1, hh.1.2, hh.2⟩
    · cases h
  · cases h
theorem sS_dput {i : Nat} {kx e : Ex} : SS ec Γ T XT n (.dput i kx e) := fun s X W sc C hc => by
  have hc : (match dputP T sc i s with | some (x, v) => chkE T sc kx x && chkE T sc e v | none => false) = true := hc
  split at hc
  case h_2 => cases hc
  rename_i x0 v hv
  have hcm := hc
  clear hc
  rw [Bool.and_eq_true] at hcm
  obtain ⟨x, p, sp, pos, rfl, h1, h2, h3⟩ := dputP_ok hv
  refine PS_imp (ps_dputG C.C.hu (varB_ok C.C h1) ((sE kx).pe C.C hcm.1) ((sE e).pe C.C hcm.2) (notComp_sw h3 _ _ _)) fun D σ H ⟨G0, H0, st0, G, env, st, I, q⟩ => ?_
  unfold exC at q
  refine (Sl.start I).bindF q fun r st1 G1 H1 w p1 a1 ro q => ?_
  rw [wpM_bind] at q
  replace q := wp_dctAt p1.s.wr p1.s.e q
  obtain ⟨k, og, ov, g1, g2, b, g3, q⟩ := q
  refine ⟨_, g2, p1.bindE q fun r2 st2 G2 H2 y p2 a2 ry q => ?_⟩
  rw [wpM_bind] at q
  replace q := wp_dctAt p2.s.wr p2.s.e q
  obtain ⟨k', og', ov', g1', g2', b', g3', q⟩ := q
  rw [g1] at g1'
  cases g1'
  simp only at q
  split at q
  case isFalse => exact q.elim
  rename_i hv'
  rw [wpM_bind] at q
  replace q := wpM_ofO q
  obtain ⟨nk, e1, q⟩ := q
  split at q
  case isFalse => exact q.elim
  rename_i hl
  have ee := b.same b' a2.le.o hv'.1
  subst ee
  obtain ⟨f1, f2⟩ := b'.entries p2.s.e.kk g3'
  have rk := keyOk_rep ry e1
  obtain ⟨n1, n2⟩ := keyOk_nk e1
  have rv := ro.mono p1.s.wr a2.le a2.keep
  refine ⟨G2, og'.a, og'.es, ov'.ps, r2.1, nk, p2.s.e.kk, rfl, f1, f2, hl, rk, e1, fun a ea => ?_⟩
  subst ea
  have kk : ∀ (q : Addr) (u : HO), q ≠ og'.a → H2 q = some u → L2.upd H2 og'.a (dO X.kx og'.a (eStored og'.es nk a w)) q = some u := fun q u n e => by rw [upd_ne n]; exact e
  obtain ⟨G', I', nw⟩ := p2.s.chgO (og' := { og' with v := og'.v + 1, es := eStored og'.es nk a w }) (ov' := { ov' with v := ov'.v + 1, ps := dPut ov'.ps nk r2.1 r.1 }) b' rfl rfl rfl rfl og'.a (.inl rfl) (fun _ => False) (fun _ h => h.elim) (fun _ h => h.elim) (fun _ h => h.elim) kk (.inr (.inr ⟨_, upd_same⟩))
    (fun i q us0 a1 a2 => .inr ⟨us0, a1, a2⟩) (fun _ _ _ _ _ h => h.elim) fun G' g kl om _ => ⟨b'.ok.c, by show og'.v + 1 = ov'.v + 1; rw [b'.ok.v], om _ b'.ok.oma, by
      rw [if_pos (show og'.c = 2 by rw [b'.ok.c, g3'])]
      refine ⟨(b'.dct g3').1, ?_, ereps_stored (by rw [g.k, p2.s.e.kk]; exact rk.gr g kl) n1 n2 (by rw [g.k, p2.s.e.kk]; exact rv.gr g kl) hv'.2 (f2.gr g kl)⟩
      show L2.upd H2 og'.a _ og'.a = some (dO G'.k og'.a _)
      rw [upd_same, g.k, p2.s.e.kk]⟩
  exact q G' _ σ I' (p2.n.go nw)
theorem forfP_ok {sc : Scope} {i j : Nat} {s : Stmt} {tg : Expr} {b : List Stmt} (h : forfP T sc i j s = some (tg, b)) : ∃ x f p ap gp cp pos es kk tp, s = .For tg (.Call (.Name ("enumerate" : Str) gp) [.Attribute (.Name x p) f ap] [] cp) b [] pos ∧ glB sc ("enumerate" : Str) = true ∧ varB T sc i x = true ∧ fieldB T j f = true ∧ tg = .Tuple es kk tp := by
  unfold forfP at h
  split at h
  · split at h
    · rename_i hh
      cases h
      simp only [Bool.and_eq_true] at hh
      obtain ⟨⟨⟨h1, h2⟩, h3⟩, h4⟩ := hh
      have h1 := of_decide_eq_true h1
      subst h1
      obtain ⟨x, f, p, ap, rfl, h5, h6⟩ := fldB_ok h3
      unfold isTupE at h4
      split at h4
      · exact ⟨x, f, p, ap, _, _, _, _, _, _, rfl, h2, h5, h6, rfl⟩
      · cases h4
    · cases h
  · cases h
theorem wpM_sameVer {k v : Nat} {r : Fl × Envi} {s : S} {ok : Fl × Envi → S → Prop} {ex : Nat → S → Prop} (h : wpM (sameVer k v r) s ok ex) : unv s k = some v ∧ ok r s := by
  unfold wpM sameVer at h
  by_cases hc : unv s k = some v
  · rw [if_pos hc] at h
    exact ⟨hc, h⟩
  · rw [if_neg hc] at h
    exact h.elim
theorem sS_forf {t : Tg} {i j : Nat} {body : Cmds} (hb : SSs ec Γ T XT n body) : SS ec Γ T XT n (.forf t i j body) := fun s X W sc C hc => by
  have hc : (match forfP T sc i j s with | some (tg, b) => chkT T sc t tg && chkSs T XT sc body b | none => false) = true := hc
  split at hc
  case h_2 => cases hc
  rename_i tg b hv
  have hcm := hc
  clear hc
  rw [Bool.and_eq_true] at hcm
  obtain ⟨x, f, p, ap, gp, cp, pos, es, kk, tp, rfl, h0, h1, h2, rfl⟩ := forfP_ok hv
  have F := fieldB_ok C.C h2
  have gl : Gl X "enumerate" := gl_of C.C h0
  refine ⟨fun pins s0 σ H D II ⟨G0, H0, st0, G, env, st, I, q⟩ => ?_⟩
  refine (ps_for C.hp C.C.calm (pi_enumK gl (C.C.bn "enumerate" (by decide +kernel)) (pa_cons (pe_lf (env := env) (W := W) (ec := ec) C.C h1 h2) pa_nil) rfl) (pg_ok C.C.tg hcm.1) (hb b X W sc C hcm.2) (fun _ => rfl)).run pins s0 σ H D II ?_
  unfold exC at q
  rw [wpM_bind] at q
  replace q := wp_objF I.wr I.e q
  obtain ⟨k, og, ov, g1, g2, bb, g3, q⟩ := q
  rw [wpM_bind] at q
  replace q := wpM_ofO q
  obtain ⟨ys, e0, q⟩ := q
  unfold tFor iEnumK tCons
  refine lf_of I.wr I.e F.lt bb g3 g1 g2 e0 fun pp us v1 v2 _ hp0 rs0 => ?_
  refine ⟨.l, pp, us, rfl, .inl (.inl hp0), ?_⟩
  let R : Gh → Hp → S → Prop := fun G2 H2 st2 => Wr G2 H2 st2 ∧ H2 pp = some (.lst us) ∧ Reps X.kx G2 H2 us ys
  have sq : Sq X.kx R .l pp us ys := ⟨fun _ _ _ h => h.1, fun _ _ _ h => .inl (.inl h.2.1), fun _ _ _ h => h.2.2, rs0.length⟩
  have wk := wk_e sq
  let xs := enumW 0 ys
  refine ⟨fun i m σ2 H2 => m = xs.length - i ∧ i ≤ xs.length ∧ ∃ G2 st2 env2, SInv X.kx G0 H0 st0 G2 H2 st2 env2 σ2 ∧ Nw G H G2 H2 st2 ∧ R G2 H2 st2 ∧
    wpM (forN t (fun e => M.bind (exCs Γ n body e) fun r => sameVer k ov.v r) (xs.drop i) env2) st2 (OKS X.kx G0 H0 st0 G H D) (EXS ec W G0 H0), ⟨_, rfl, Nat.zero_le _, G, st, _, I, Nw.refl I.wr, ⟨I.wr, hp0, rs0⟩, q⟩, ?_⟩
  rintro i m σ2 H2 ⟨rfl, hi, G2, st2, env2, I2, nw2, rel, q⟩
  by_cases hlt : i < xs.length
  case neg =>
    have e : i = xs.length := by omega
    subst e
    left
    rw [List.drop_length] at q
    exact ⟨wk.stop _ _ _ rel, q G2 H2 σ2 I2 nw2⟩
  case pos =>
    right
    refine ⟨wk.go _ _ _ _ rel hlt, fun σ' H' => ∃ G2 st2 env2, SInv X.kx G0 H0 st0 G2 H' st2 env2 σ' ∧ Nw G H G2 H' st2 ∧ R G2 H' st2 ∧ wpM (forN t (fun e => M.bind (exCs Γ n body e) fun r => sameVer k ov.v r) (xs.drop (i + 1)) env2) st2 (OKS X.kx G0 H0 st0 G H D) (EXS ec W G0 H0),
      fun σ' H' z => ⟨xs.length - (i + 1), by omega, rfl, hlt, z⟩, fun v H3 y => ?_⟩
    obtain ⟨x, hx, a3, rx⟩ := wk.yld _ _ _ _ _ _ rel hlt y
    have ed : xs.drop i = x :: xs.drop (i + 1) := by
      rw [List.drop_eq_getElem_cons hlt]
      rw [get_same hlt] at hx
      cases hx
      rfl
    rw [ed] at q
    unfold forN at q
    rw [wpM_bind] at q
    obtain ⟨env', e1, q⟩ := wpM_ofO q
    rw [asgT_eq] at e1
    cases e2 : asgP t x with
    | none => rw [e2] at e1; cases e1
    | some ps =>
      rw [e2] at e1
      cases e1
      refine ⟨G2, x, ps, rx, e2, fun us0 hus => ?_⟩
      rw [wpM_bind, wpM_bind] at q
      have nw3 := nw2.go (a3.nw I2.wr)
      refine ⟨G0, H0, st0, G2, _, st2, (I2.step a3).puts hus, wpM_mono q (fun r st' q => ?_) fun _ _ z => z⟩
      obtain ⟨hu, q⟩ := wpM_sameVer q
      obtain ⟨f, env'⟩ := r
      have same : ∀ {G' : Gh} {H' : Hp}, Nw G H G' H' st' → R G' H' st' := fun {G' H'} nw => by
        obtain ⟨o', f1, _, _, _, _, f6⟩ := nw.o k og bb.g
        unfold unv at hu
        cases hs : st'.ob[k]? with
        | none => rw [hs] at hu; cases hu
        | some ov' =>
          rw [hs] at hu
          have hu : ov'.v = ov.v := by simpa using hu
          have ok := nw.w.ob k o' ov' f1 hs
          have := f6 (by rw [ok.v, hu, bb.ok.v])
          subst this
          exact ⟨nw.w, (ok.lat v1 v2).2, rs0.nw nw⟩
      cases f with
      | next => exact fun G' H' σ' I' n' => ⟨G', st', env', I', nw3.go n', same (nw3.go n'), q⟩
      | ret x fr => exact q
end
end GB

/-! GStmD: pop; return, raise, if, for, while; all statements. -/
namespace GB
open PySem PySem.Spec PyProof.Rows L2
section
variable {ec : Nat → Option Value} {Γ : Gam} {T : Tb} {XT : Nat → Option Str} {n : Nat}
theorem ixN_bnd {m j : Nat} {k : Int} (h : GB.ixN m k = some j) (hm : m ≤ sizeLine) : -(2 ^ 63) ≤ k ∧ k < 2 ^ 63 ∧ seqIndex? k m = some j := by
  obtain ⟨h1, h2, h3, h4⟩ := ixN_seq (show L2.ixN m k = some j from h)
  have hn := line63
  exact ⟨by omega, by omega, h1⟩
theorem eraseIdx_last {α : Type} : ∀ (l : List α), l.eraseIdx (l.length - 1) = l.dropLast := by
  intro l
  induction l with
  | nil => rfl
  | cons a l ih =>
    cases l with
    | nil => rfl
    | cons b l =>
      show a :: (b :: l).eraseIdx ((b :: l).length - 1) = _
      rw [ih]
      rfl
/-- what a pop leaves: the value, the list without it -/
def tPop (K : KX) (ec : Nat → Option Value) (Γ : Gam) (W : WX) (i : Nat) (ix : Option Ex) : TE := fun σ H Q => ∃ G0 H0 st0 G env st, SInv K G0 H0 st0 G H st env σ ∧
  wpM (popM Γ i ix env) st (fun r st' => ∀ G' H' v, SInv K G0 H0 st0 G' H' st' r.2 σ → Nw G H G' H' st' → Rep K G' H' v r.1 → Q v H') (EXS ec W G0 H0)
theorem popM_wp {i : Nat} {ix : Option Ex} {env : Envi} {st : S} {ok : PV × Envi → S → Prop} {ex : Nat → S → Prop} (h : wpM (popM Γ i ix env) st ok ex) : ∃ xs, env[i]? = some (some (.lst xs, true)) ∧ xs.length ≤ lim ∧
    wpM (match ix with | none => M.ret (xs.length - 1) | some e => M.bind (evalB Γ e env) fun y => ofO (match asIntO y with | some k => ixN xs.length k | none => none)) st (fun j st' => ∃ x, xs[j]? = some x ∧ ok (x, env.set i (some (.lst (xs.eraseIdx j), true))) st') ex := by
  unfold popM at h
  rw [wpM_bind] at h
  obtain ⟨xs, e1, h⟩ := wpM_ofO h
  split at h
  · rename_i hl
    rw [wpM_bind] at h
    refine ⟨xs, ownL_some e1, hl, wpM_mono h (fun j st' h => ?_) fun _ _ z => z⟩
    rw [wpM_bind] at h
    obtain ⟨x, e2, h⟩ := wpM_ofO h
    exact ⟨x, e2, h⟩
  · exact h.elim
theorem pe_pop {i : Nat} {ix : Option Ex} {v : Expr} {X : Cx} {W : WX} {sc : Scope} (C : SCtx ec T XT Γ X W sc) (hc : popB T sc i ix v = true) : PE X v (tPop X.kx ec Γ W i ix) := by
  cases v <;> try exact nomatch (show false = true from hc)
  rename_i f as ks cp
  cases f <;> try exact nomatch (show false = true from hc)
  rename_i o m ap
  cases o <;> try exact nomatch (show false = true from hc)
  rename_i x px
  cases ks <;> try exact nomatch (show false = true from hc)
  unfold popB at hc
  simp only [Bool.and_eq_true] at hc
  obtain ⟨⟨⟨h1, h2⟩, h3⟩, h4⟩ := hc
  have h1 := of_decide_eq_true h1
  subst h1
  obtain ⟨_, _, _, _, pv⟩ := nameB_ok C.C h2
  cases ix with
  | none =>
    rcases as with _ | ⟨_, _⟩
    case cons => exact nomatch h4
    refine PE_imp (pe_bm0 PySem.F.plainAttrs_list PySem.F.slot_list_pop PySem.F.type_list_pop mt_pop pv rfl h3) fun σ H Q ⟨G0, H0, st0, G, env, st, I, q⟩ => ?_
    obtain ⟨xs, e1, hl, q⟩ := popM_wp q
    obtain ⟨p, vs, g1, g2, g3, g4, g5, g6⟩ := I.upd e1
    obtain ⟨x0, hx, q⟩ := (show ∃ x, _ from q)
    obtain ⟨w, hw, rw'⟩ := g3.get hx
    refine ⟨.ref p, g1, .inl ⟨rfl, vs, .inl (.inl g2)⟩, p, vs, w, rfl, rfl, g2, by rw [g3.length]; exact hw, ?_⟩
    obtain ⟨I3, nw⟩ := g6 vs.dropLast (xs.eraseIdx (xs.length - 1)) (by
      rw [← eraseIdx_last vs, g3.length]
      exact g3.eraseIdx _)
    exact q G _ w I3 nw (rw'.nw nw)
  | some e =>
    rcases as with _ | ⟨v, _ | ⟨_, _⟩⟩ <;> try (exact absurd h4 Bool.false_ne_true)
    have h4' : (notStar v && chkE T sc e v) = true := h4
    rw [Bool.and_eq_true] at h4'
    refine PE_imp (pe_bm PySem.F.plainAttrs_list PySem.F.slot_list_pop PySem.F.type_list_pop mt_popAt pv (pa_cons ((sE e).lent C.C h4'.2) pa_nil (star_cons h4'.1)) rfl (few1 h4'.1) h3 (star_cons h4'.1) rfl) fun σ H Q ⟨G0, H0, st0, G, env, st, I, q⟩ => ?_
    obtain ⟨xs, e1, hl, q⟩ := popM_wp q
    obtain ⟨p, vs, g1, g2, _⟩ := I.upd e1
    refine ⟨.ref p, g1, .inl ⟨rfl, vs, .inl (.inl g2)⟩, (Sl.start I).bindB q fun y st1 G1 H1 u p1 a1 ru q => ?_⟩
    replace q := wpM_ofO q
    obtain ⟨j, e2, q⟩ := q
    obtain ⟨p', vs', k1, k2, k3, k4, k5, k6⟩ := p1.s.upd e1
    rw [g1] at k1
    cases k1
    cases y <;> try contradiction
    rename_i k
    have e2 : ixN xs.length k = some j := e2
    obtain ⟨x0, hx, q⟩ := q
    obtain ⟨w, hw, rw'⟩ := k3.get hx
    obtain ⟨b1, b2, b3⟩ := ixN_bnd e2 (Nat.le_of_lt (lim_line hl))
    obtain ⟨I3, nw⟩ := k6 (vs'.eraseIdx j) (xs.eraseIdx j) (k3.eraseIdx j)
    exact ⟨p, vs', k, j, w, rfl, by rw [ru.int], k2, b1, b2, by rw [k3.length]; exact b3, hw, q G1 _ w I3 (p1.n.go nw) (rw'.nw nw)⟩
theorem popB_sw {i : Nat} {ix : Option Ex} {v : Expr} {sc : Scope} (hc : popB T sc i ix v = true) : notComp v = true ∧ notTup v = true := by
  cases v <;> first | exact nomatch (show false = true from hc) | exact ⟨rfl, rfl⟩
theorem sS_pop {t : Option Tg} {i : Nat} {ix : Option Ex} : SS ec Γ T XT n (.pop t i ix) := fun s X W sc C hc => by
  cases t with
  | none =>
    cases s <;> try exact nomatch (show false = true from hc)
    rename_i v pos
    have hc' : popB T sc i ix v = true := hc
    refine PS_imp (ps_expr (pe_pop C hc') (notComp_sw (popB_sw hc').1 _ _ _)) fun D σ H ⟨G0, H0, st0, G, env, st, I, q⟩ => ?_
    unfold exC at q
    rw [wpM_bind] at q
    exact ⟨G0, H0, st0, G, env, st, I, wpM_mono q (fun r st' q G' H' v I' nw _ => q G' H' σ I' nw) fun _ _ z => z⟩
  | some t =>
    cases s <;> try exact nomatch (show false = true from hc)
    rename_i tl v pos
    rcases tl with _ | ⟨tg, _ | ⟨_, _⟩⟩ <;> try exact nomatch (show false = true from hc)
    have hc' : (popB T sc i ix v && chkT T sc t tg) = true := hc
    rw [Bool.and_eq_true] at hc'
    obtain ⟨h1, h2⟩ := hc'
    obtain ⟨nc, nt⟩ := popB_sw h1
    have sw : swapsWithSole [tg] v pos.line X.env = pure false := notComp_sw nc _ _ _
    have ss : swappedStores [tg] v X.env = pure none := by
      cases t <;> cases tg <;> first | exact absurd h2 Bool.false_ne_true | (cases v <;> first | rfl | exact absurd nt Bool.false_ne_true)
    have ae : (assignEach [tg] X.env).map (·.2) = [assign tg X.env] := by
      cases t <;> cases tg <;> first | exact absurd h2 Bool.false_ne_true | rfl
    refine PS_imp (ps_asg (pe_pop C h1) (pg_ok C.C.tg h2) sw ss ae) fun D σ H ⟨G0, H0, st0, G, env, st, I, q⟩ => ?_
    unfold exC at q
    rw [wpM_bind] at q
    refine ⟨G0, H0, st0, G, env, st, I, wpM_mono q (fun r st' q G' H' v I' nw rv => ?_) fun _ _ z => z⟩
    rw [wpM_bind] at q
    obtain ⟨env', e1, q⟩ := wpM_ofO q
    rw [asgT_eq] at e1
    cases e2 : asgP t r.1 with
    | none => rw [e2] at e1; cases e1
    | some ps =>
      rw [e2] at e1
      cases e1
      exact ⟨G', r.1, ps, rv, e2, fun us hus => q G' H' _ (I'.puts hus) nw⟩
theorem sS_apppop {qi i : Nat} {e : Ex} : SS ec Γ T XT n (.apppop qi i e) := fun s X W sc C hc => by
  cases s <;> try exact nomatch (show false = true from hc)
  rename_i v pos
  cases v <;> try exact nomatch (show false = true from hc)
  rename_i f as ks cp
  cases f <;> try exact nomatch (show false = true from hc)
  rename_i o m ap
  cases o <;> try exact nomatch (show false = true from hc)
  rename_i x px
  rcases as with _ | ⟨v, _ | ⟨_, _⟩⟩ <;> cases ks <;> try exact nomatch (show false = true from hc)
  have hc' : (decide (m = "append") && nameB T sc qi x && ap.endLine == cp.line && popB T sc i (some e) v) = true := hc
  simp only [Bool.and_eq_true] at hc'
  obtain ⟨⟨⟨h1, h2⟩, h3⟩, h5⟩ := hc'
  have h1 := of_decide_eq_true h1
  subst h1
  have h4 : notStar v = true := by cases v <;> first | rfl | exact nomatch (show false = true from h5)
  obtain ⟨_, _, _, _, pv⟩ := nameB_ok C.C h2
  refine PS_imp (ps_expr (pe_bm PySem.F.plainAttrs_list PySem.F.slot_list_append PySem.F.type_list_append mt_append pv (pa_cons (pe_pop C h5) pa_nil (star_cons h4)) rfl (few1 h4) h3 (star_cons h4) rfl) rfl) fun D σ H ⟨G0, H0, st0, G, env, st, I, q⟩ => ?_
  unfold exC at q
  rw [wpM_bind] at q
  obtain ⟨zs, e1, q⟩ := wpM_ofO q
  have e1 := ownL_some e1
  split at q
  · exact q.elim
  · rename_i hne
    rw [wpM_bind] at q
    obtain ⟨p0, vs0, g1, g0, _⟩ := I.upd e1
    obtain ⟨xs, e2, hl, q⟩ := popM_wp q
    refine ⟨.ref p0, g1, .inl ⟨rfl, vs0, .inl (.inl g0)⟩, G0, H0, st0, G, env, st, I, ?_⟩
    unfold popM
    have : ownL env i = some xs := by unfold ownL; rw [e2]
    rw [this]
    show wpM (if xs.length ≤ lim then _ else _) st _ _
    rw [if_pos hl, wpM_bind]
    refine wpM_mono q (fun j st' q => ?_) fun _ _ z => z
    obtain ⟨x0, hx, q⟩ := q
    rw [wpM_bind, hx]
    intro G' H' v I' nw rv
    split at q
    · rename_i hz
      have e3 : (env.set i (some (PV.lst (xs.eraseIdx j), true)))[qi]? = some (some (PV.lst zs, true)) := by
        rw [List.getElem?_set_ne (fun z => hne z.symm)]
        exact e1
      obtain ⟨p, vs, k1, k2, k3, k4, k5, k6⟩ := I'.upd e3
      rw [g1] at k1
      cases k1
      obtain ⟨I3, nw3⟩ := k6 (vs ++ [v]) (zs ++ [x0]) (k3.append (.cons rv .nil))
      exact ⟨p0, vs, v, rfl, rfl, k2, by rw [k3.length]; exact lim_line (Nat.le_of_lt hz), q G' _ _ I3 (nw.go nw3)⟩
    · exact q.elim
theorem sS_mkcnt {i : Nat} : SS ec Γ T XT n (.mkcnt i) := fun s X W sc C hc => by
  cases s <;> try exact nomatch (show false = true from hc)
  rename_i tl v pos
  rcases tl with _ | ⟨t, tl⟩ <;> try exact nomatch (show false = true from hc)
  cases t <;> try exact nomatch (show false = true from hc)
  rename_i x px
  cases tl <;> cases v <;> try exact nomatch (show false = true from hc)
  rename_i es p
  cases es <;> try exact nomatch (show false = true from hc)
  have hc' : nameB T sc i x = true := hc
  obtain ⟨nd, hi, hl, hf, _⟩ := nameB_ok C.C hc'
  refine PS_imp (ps_set nd hi hl (pe_lst pa_nil) rfl hf) fun D σ H ⟨G0, H0, st0, G, env, st, I, q⟩ => ?_
  refine ⟨Nat.zero_le _, fun p hp => ?_⟩
  unfold exC wpM at q
  cases hn : st.cnt with
  | some k => simp only [hn] at q
  | none =>
    simp only [hn] at q
    have hca : G.ca = none := by
      have := I.wr.cn
      rw [hn] at this
      exact this
    have nl := I.wr.fresh_L hp
    have no : ¬ G.om p := fun m => by
      obtain ⟨o, e⟩ := I.wr.mut_some (.inr m)
      rw [hp] at e
      cases e
    let G' : Gh := { G with ca := some p }
    have g : Gr G G' := ⟨fun _ h => h, fun a h => (by rw [hca] at h; cases h), rfl, OoLe.refl⟩
    have kk : ∀ q u, H q = some u → L2.upd H p (.lst []) q = some u := fun q u e => by rw [upd_ne (ne_of_none e hp)]; exact e
    have w' : Wr G' (L2.upd H p (.lst [])) { st with cnt := some 0 } := by
      have b : Wb G' (L2.upd H p (.lst [])) { st with cnt := some 0 } := by
        refine ⟨fun a h m => ?_, fun a h => ?_, ⟨p, rfl, upd_same⟩, fun a h => ?_, fun q hq => ?_⟩
        · rcases m with m | m
          · cases m
            exact nl h
          · exact I.wr.lm a h (.inr m)
        · obtain ⟨o, e⟩ := I.wr.lt a h
          exact ⟨o, kk _ _ e⟩
        · cases h
          exact no
        · rcases I.wr.om q hq with ⟨a, e⟩ | ⟨a, b, c, e⟩ | ⟨a, e⟩
          · exact .inl ⟨a, kk _ _ e⟩
          · exact .inr (.inl ⟨a, b, c, kk _ _ e⟩)
          · exact .inr (.inr ⟨a, kk _ _ e⟩)
      exact ⟨b, I.wr.ol, fun j o ov h1 h2 => (I.wr.ob j o ov h1 h2).gr g (fun q u _ e => kk q u e) (fun q u _ e => kk q u e) fun _ z => z, I.wr.ds, I.wr.da⟩
    have a : After G H { st with cnt := some 0 } G' (L2.upd H p (.lst [])) := by
      refine ⟨⟨fun _ h => h, fun _ h => .inl h, fun a h => h.elim (fun z => by rw [hca] at z; cases z) .inr, fun a h => ?_, fun a h => (by rw [hca] at h; cases h), rfl, OoLe.refl⟩, keep_upd hp, w'⟩
      rcases h with h | h
      · cases h
        exact .inr hp
      · exact .inl (.inr h)
    exact q G' _ _ ((I.step a).put i (.cnt rfl)) (a.nw I.wr)
theorem sS_expr {e : Ex} : SS ec Γ T XT n (.expr e) := fun s X W sc C hc => by
  cases s <;> try exact nomatch (show false = true from hc)
  rename_i v pos
  have hc' : (notComp v && chkE T sc e v) = true := hc
  rw [Bool.and_eq_true] at hc'
  refine PS_imp (ps_expr ((sE e).pe C.C hc'.2) (notComp_sw hc'.1 _ _ _)) fun D σ H ⟨G0, H0, st0, G, env, st, I, q⟩ => ?_
  unfold exC at q
  exact (Sl.start I).bindE q fun r st1 G1 H1 w p1 a1 ro q => q G1 H1 σ p1.s p1.n
theorem freezeAll_get {env : Envi} {i : Nat} {x : PV} {b : Bool} (h : (freezeAll env)[i]? = some (some (x, b))) : ∃ b0, env[i]? = some (some (x, b0)) ∧ (b = true → b0 = true) := by
  unfold freezeAll at h
  rw [List.getElem?_map] at h
  cases e : env[i]? with
  | none => rw [e] at h; cases h
  | some o =>
    rw [e] at h
    cases o with
    | none => cases h
    | some r =>
      obtain ⟨y, c⟩ := r
      cases h
      exact ⟨c, rfl, fun z => nomatch z⟩
theorem sS_ret {e : Ex} : SS ec Γ T XT n (.ret e) := fun s X W sc C hc => by
  cases s <;> try exact nomatch (show false = true from hc)
  rename_i o pos
  cases o with
  | none =>
    cases e <;> try exact nomatch (show false = true from hc)
    refine PS_imp ps_retN fun D σ H ⟨G0, H0, st0, G, env, st, I, q⟩ => ?_
    unfold exC at q
    rw [wpM_bind] at q
    unfold evE at q
    exact q G H .non I.a (by unfold ResOk; rw [if_neg Bool.false_ne_true]; exact .non)
  | some v =>
    have hc' : chkE T sc e v = true := by cases e <;> exact hc
    by_cases hv : ∃ i, e = .var i
    · obtain ⟨i, rfl⟩ := hv
      cases v <;> try exact nomatch (show false = true from hc')
      rename_i x px
      have h' : (decide (T.N[i]? = some x) && visB sc x && okName x) = true := hc'
      rw [Bool.and_eq_true, Bool.and_eq_true] at h'
      obtain ⟨⟨h1, h2⟩, h3⟩ := h'
      obtain ⟨d1, d2⟩ := okName_ok h3
      refine PS_imp (ps_ret (pe_var (by rw [C.C.hN]; exact of_decide_eq_true h1) (by rw [C.C.hsc]; exact visB_ok h2) d1 d2)) fun D σ H ⟨G0, H0, st0, G, env, st, I, q⟩ => ?_
      unfold exC at q
      rw [wpM_bind] at q
      obtain ⟨r, e1, q⟩ := wpM_ofO q
      split at e1
      · rename_i r' hr
        cases e1
        obtain ⟨y, b⟩ := r
        cases b with
        | false =>
          obtain ⟨w, g1, g2⟩ := I.e.fz i y hr
          exact ⟨w, g1, q G H w I.a (by unfold ResOk; rw [if_neg Bool.false_ne_true]; exact g2)⟩
        | true =>
          obtain ⟨p, vs, xs, g1, rfl, m, l, g2, g3⟩ := I.e.ow i y hr
          exact ⟨_, g1, q G H _ I.a (by unfold ResOk; rw [if_pos rfl]; exact ⟨p, vs, xs, rfl, rfl, m, l, I.fr i _ p hr g1, g2, g3⟩)⟩
      · cases e1
    · refine PS_imp (ps_ret ((sE e).pe C.C hc')) fun D σ H ⟨G0, H0, st0, G, env, st, I, q⟩ => ?_
      have q' : wpM (M.bind (evE Γ false e (freezeAll env)) fun r => M.ret (Fl.ret r.1 r.2, env)) st (OKS X.kx G0 H0 st0 G H D) (EXS ec W G0 H0) := by
        cases e <;> first | exact absurd ⟨_, rfl⟩ hv | exact q
      obtain ⟨G', I', nw, _⟩ := I.weak (env' := freezeAll env) (by unfold freezeAll; rw [List.length_map]) fun i x b h => freezeAll_get h
      refine (Sl.start I').bindE q' fun r st1 G1 H1 w p1 a1 ro q => q G1 H1 w p1.s.a ?_
      unfold ResOk at ro ⊢
      split at ro
      · rename_i hh
        rw [if_pos hh]
        obtain ⟨p, vs, xs, e1, e2, m, l, hn, h⟩ := ro
        exact ⟨p, vs, xs, e1, e2, m, l, I.a.keep.dom I.w0 I.a.le I.wr hn, h⟩
      · rename_i hh
        rw [if_neg hh]
        exact ro
theorem sS_raise {k : Nat} : SS ec Γ T XT n (.raise k) := fun s X W sc C hc => by
  cases s <;> try exact nomatch (show false = true from hc)
  rename_i o o2 pos2
  cases o <;> try exact nomatch (show false = true from hc)
  rename_i ce
  cases ce <;> try exact nomatch (show false = true from hc)
  rename_i f as ks pos
  cases f <;> try exact nomatch (show false = true from hc)
  rename_i x p
  rcases as with _ | ⟨v, as⟩ <;> try exact nomatch (show false = true from hc)
  cases v <;> try exact nomatch (show false = true from hc)
  rename_i c j p2
  cases c <;> try exact nomatch (show false = true from hc)
  rename_i m
  cases as <;> cases ks <;> cases o2 <;> try exact nomatch (show false = true from hc)
  have hc : (decide (XT k = some x) && glB sc x) = true := hc
  rw [Bool.and_eq_true] at hc
  obtain ⟨cls, e1, F⟩ := C.rz k x (of_decide_eq_true hc.1)
  have gl : Gl X x := by
    show X.env.scope.names.lookup x = _
    rw [C.C.hsc]
    exact glB_ok hc.2
  refine PS_imp (ps_raise C.C.calm C.C.tk (F _ _ _ _ _ gl)) fun D σ H ⟨G0, H0, st0, G, env, st, I, q⟩ => ?_
  unfold exC at q
  exact q G H cls σ I.a e1
theorem sS_pass : SS ec Γ T XT n .pass := fun s X W sc C hc => by
  cases s <;> try exact nomatch (show false = true from hc)
  refine PS_imp ps_pass fun D σ H ⟨G0, H0, st0, G, env, st, I, q⟩ => ?_
  unfold exC at q
  exact q G H σ I (Nw.refl I.wr)
end
end GB

/-! GStmE: if, for, while; all statements; defs. -/
namespace GB
open PySem PySem.Spec PyProof.Rows L2
section
variable {ec : Nat → Option Value} {Γ : Gam} {T : Tb} {XT : Nat → Option Str} {n : Nat}
theorem OKS.mono {K : KX} {G0 G G1 : Gh} {H0 H H1 : Hp} {st0 st1 : S} {D : Ends} (nw : Nw G H G1 H1 st1) {r : Fl × Envi} {st' : S} (q : OKS K G0 H0 st0 G H D r st') : OKS K G0 H0 st0 G1 H1 D r st' := by
  obtain ⟨f, env⟩ := r
  cases f with
  | next => exact fun G' H' σ' I n => q G' H' σ' I (nw.go n)
  | ret x fr => exact q
theorem sS_ifs {c : Ex} {a b : Cmds} (ha : SSs ec Γ T XT n a) (hb : SSs ec Γ T XT n b) : SS ec Γ T XT n (.ifs c a b) := fun s X W sc C hc => by
  cases s <;> try exact nomatch (show false = true from hc)
  rename_i t x y pos
  have hc' : (chkE T sc c t && chkSs T XT sc a x && chkSs T XT sc b y) = true := hc
  simp only [Bool.and_eq_true] at hc'
  obtain ⟨⟨h1, h2⟩, h3⟩ := hc'
  refine PS_imp (ps_if ((sE c).pt C.C h1) (ha x X W sc C h2) (hb y X W sc C h3)) fun D σ H ⟨G0, H0, st0, G, env, st, I, q⟩ => ?_
  unfold exC at q
  refine (Sl.start I).bindT q fun d st1 G1 H1 p1 q => ?_
  cases d with
  | true =>
    rw [if_pos rfl]
    simp only [if_true] at q
    exact ⟨G0, H0, st0, G1, env, st1, p1.s, wpM_mono q (fun r st' q => OKS.mono p1.n q) fun _ _ z => z⟩
  | false =>
    rw [if_neg Bool.false_ne_true]
    simp only [Bool.false_eq_true, if_false] at q
    exact ⟨G0, H0, st0, G1, env, st1, p1.s, wpM_mono q (fun r st' q => OKS.mono p1.n q) fun _ _ z => z⟩
theorem sS_whl {c : Ex} {body : Cmds} (hb : SSs ec Γ T XT n body) : SS ec Γ T XT n (.whl c body) := fun s X W sc C hc => by
  cases s <;> try exact nomatch (show false = true from hc)
  rename_i t b ol pos
  cases ol <;> try exact nomatch (show false = true from hc)
  have hc' : (chkE T sc c t && chkSs T XT sc body b) = true := hc
  rw [Bool.and_eq_true] at hc'
  refine PS_imp (ps_while C.hp ((sE c).pt C.C hc'.1) (hb b X W sc C hc'.2)) fun D σ H ⟨G0, H0, st0, G, env, st, I, q⟩ => ?_
  unfold exC at q
  refine ⟨fun m σ2 H2 => ∃ G2 st2 env2, SInv X.kx G0 H0 st0 G2 H2 st2 env2 σ2 ∧ Nw G H G2 H2 st2 ∧
    wpM (whileN (fun env => M.bind (evalB Γ c env) fun x => ofO (asBool x)) (exCs Γ n body) m env2) st2 (OKS X.kx G0 H0 st0 G H D) (EXS ec W G0 H0), ⟨n, G, st, env, I, Nw.refl I.wr, q⟩, ?_⟩
  rintro m σ2 H2 ⟨G2, st2, env2, I2, nw, q⟩
  cases m with
  | zero => exact q.elim
  | succ m =>
    unfold whileN at q
    have q : wpM (M.bind (evalB Γ c env2) fun x => M.bind (ofO (asBool x)) fun t => if t = true then M.bind (exCs Γ n body env2) fun r => (match r.1 with
      | .next => whileN (fun env => M.bind (evalB Γ c env) fun x => ofO (asBool x)) (exCs Γ n body) m r.2
      | .ret x f => M.ret (.ret x f, r.2)) else M.ret (.next, env2)) st2 (OKS X.kx G0 H0 st0 G H D) (EXS ec W G0 H0) := by
      rw [wpM_bind] at q ⊢
      rw [wpM_bind] at q
      refine wpM_mono q (fun x st' q => ?_) fun _ _ z => z
      rw [wpM_bind]
      exact q
    refine (Sl.start I2).bindT q fun d st3 G3 H3 p3 q => ?_
    cases d with
    | false =>
      rw [if_neg Bool.false_ne_true]
      simp only [Bool.false_eq_true, if_false] at q
      exact q G3 H3 σ2 p3.s (nw.go p3.n)
    | true =>
      rw [if_pos rfl]
      simp only [if_true] at q
      rw [wpM_bind] at q
      refine ⟨fun σ' H' => ∃ G2 st2 env2, SInv X.kx G0 H0 st0 G2 H' st2 env2 σ' ∧ Nw G H G2 H' st2 ∧
        wpM (whileN (fun env => M.bind (evalB Γ c env) fun x => ofO (asBool x)) (exCs Γ n body) m env2) st2 (OKS X.kx G0 H0 st0 G H D) (EXS ec W G0 H0), fun σ' H' z => ⟨m, Nat.lt_succ_self m, z⟩, G0, H0, st0, G3, env2, st3, p3.s, wpM_mono q (fun r st' q => ?_) fun _ _ z => z⟩
      obtain ⟨f, env'⟩ := r
      cases f with
      | next => exact fun G' H' σ' I' n' => ⟨G', st', env', I', (nw.go p3.n).go n', q⟩
      | ret x fr => exact q
theorem freeze1_get {e : Ex} {env : Envi} {i : Nat} {x : PV} {b : Bool} (h : (freeze1 e env)[i]? = some (some (x, b))) : ∃ b0, env[i]? = some (some (x, b0)) ∧ (b = true → b0 = true) := by
  unfold freeze1 at h
  split at h
  · rename_i j
    split at h
    · rename_i y c hy
      rcases set_key h with ⟨e1, e2, _⟩ | ⟨_, h⟩
      · cases e2
        subst e1
        exact ⟨c, hy, fun z => nomatch z⟩
      · exact ⟨b, h, id⟩
    · exact ⟨b, h, id⟩
  · exact ⟨b, h, id⟩
theorem freeze1_len {e : Ex} {env : Envi} : (freeze1 e env).length = env.length := by
  unfold freeze1
  split
  · split
    · rw [List.length_set]
    · rfl
  · rfl
theorem freezeIt_get {it : Src} {env : Envi} {i : Nat} {x : PV} {b : Bool} (h : (freezeIt it env)[i]? = some (some (x, b))) : ∃ b0, env[i]? = some (some (x, b0)) ∧ (b = true → b0 = true) := by
  cases it with
  | val e => exact freeze1_get h
  | enum e => exact freeze1_get h
  | zip2 a c =>
    obtain ⟨b1, h1, h2⟩ := freeze1_get (e := c) h
    obtain ⟨b2, h3, h4⟩ := freeze1_get h1
    exact ⟨b2, h3, fun z => h4 (h2 z)⟩
  | zip3 a c d =>
    obtain ⟨b1, h1, h2⟩ := freeze1_get (e := d) h
    obtain ⟨b2, h3, h4⟩ := freeze1_get (e := c) h1
    obtain ⟨b3, h5, h6⟩ := freeze1_get h3
    exact ⟨b3, h5, fun z => h6 (h4 (h2 z))⟩
  | range1 a => exact ⟨b, h, id⟩
  | range2 a c => exact ⟨b, h, id⟩
theorem freezeIt_len {it : Src} {env : Envi} : (freezeIt it env).length = env.length := by
  cases it <;> simp only [freezeIt, freeze1_len]
theorem own_freeze1 {e : Ex} {env : Envi} {i : Nat} (h : isOwned env i = false) : isOwned (freeze1 e env) i = false := by
  cases hb : isOwned (freeze1 e env) i with
  | false => rfl
  | true =>
    unfold isOwned at hb
    split at hb
    · rename_i x b hx
      subst hb
      obtain ⟨b0, h1, h2⟩ := freeze1_get hx
      cases h2 rfl
      unfold isOwned at h
      rw [h1] at h
      cases h
    · cases hb
theorem freeze1_self {i : Nat} {env : Envi} : isOwned (freeze1 (.var i) env) i = false := by
  cases hb : isOwned (freeze1 (.var i) env) i with
  | false => rfl
  | true =>
    unfold isOwned at hb
    split at hb
    · rename_i x b hx
      subst hb
      obtain ⟨b0, h1, h2⟩ := freeze1_get hx
      have e : freeze1 (.var i) env = env.set i (some (x, false)) := by
        show (match env[i]? with | some (some (x, _)) => env.set i (some (x, false)) | _ => env) = _
        rw [h1]
      rw [e] at hx
      rcases set_key hx with ⟨_, e2, _⟩ | ⟨hne, _⟩
      · cases e2
      · exact absurd rfl hne
    · cases hb
def ownE (e : Ex) (env : Envi) : Bool := match e with | .var i => isOwned env i | _ => false
theorem ownE_self {e : Ex} {env : Envi} : ownE e (freeze1 e env) = false := by
  cases e <;> first | rfl | exact freeze1_self
theorem ownE_keep {e e' : Ex} {env : Envi} (h : ownE e env = false) : ownE e (freeze1 e' env) = false := by
  cases e <;> first | rfl | exact own_freeze1 h
theorem freezeIt_bor {it : Src} {env : Envi} : bor (srcArgs it) (freezeIt it env) = false := by
  cases it with
  | val e => show (ownE e (freeze1 e env) || false) = false; rw [ownE_self]; rfl
  | enum e => show (ownE e (freeze1 e env) || false) = false; rw [ownE_self]; rfl
  | zip2 a c =>
    show (ownE a (freeze1 c (freeze1 a env)) || (ownE c (freeze1 c (freeze1 a env)) || false)) = false
    rw [ownE_self, ownE_keep ownE_self]; rfl
  | zip3 a c d =>
    show (ownE a (freeze1 d (freeze1 c (freeze1 a env))) || (ownE c (freeze1 d (freeze1 c (freeze1 a env))) || (ownE d (freeze1 d (freeze1 c (freeze1 a env))) || false))) = false
    rw [ownE_self, ownE_keep ownE_self, ownE_keep (ownE_keep ownE_self)]; rfl
  | range1 a => rfl
  | range2 a c => rfl
theorem frzAt_len {is : List Nat} {env : Envi} : (frzAt is env).length = env.length := by
  unfold frzAt
  induction is generalizing env with
  | nil => rfl
  | cons i is ih => rw [List.foldl_cons, ih, freeze1_len]
theorem frzAt_get {is : List Nat} {env : Envi} {i : Nat} {x : PV} {b : Bool} (h : (frzAt is env)[i]? = some (some (x, b))) : ∃ b0, env[i]? = some (some (x, b0)) ∧ (b = true → b0 = true) := by
  unfold frzAt at h
  induction is generalizing env with
  | nil => exact ⟨b, h, id⟩
  | cons j is ih =>
    rw [List.foldl_cons] at h
    obtain ⟨b1, h1, h2⟩ := ih h
    obtain ⟨b2, h3, h4⟩ := freeze1_get h1
    exact ⟨b2, h3, fun z => h4 (h2 z)⟩
theorem sS_fors {t : Tg} {it : Src} {body : Cmds} (hb : SSs ec Γ T XT n body) : SS ec Γ T XT n (.fors t it body) := fun s X W sc C hc => by
  cases s <;> try exact nomatch (show false = true from hc)
  rename_i tg iter b ol pos
  cases ol <;> try exact nomatch (show false = true from hc)
  have hc' : (chkT T sc t tg && chkI T sc it tg iter && notSet iter && chkSs T XT sc body b) = true := hc
  simp only [Bool.and_eq_true] at hc'
  obtain ⟨⟨⟨h1, h2⟩, h3⟩, h4⟩ := hc'
  refine PS_imp (ps_for C.hp C.C.calm (sI it false tg iter X W sc sc C.C h2) (pg_ok C.C.tg h1) (hb b X W sc C h4) (folded_set h3)) fun D σ H ⟨G0, H0, st0, G, env, st, I, q⟩ => ?_
  unfold exC at q
  obtain ⟨G', I', nw, _⟩ := I.weak (env' := freezeIt it env) freezeIt_len fun i x b h => freezeIt_get h
  rw [wpM_bind] at q
  refine ⟨G', _, st, I'.wr, I'.e, fun _ => freezeIt_bor, wpM_mono q (fun xs st1 q G1 H1 J a wk => ?_) fun kk st2 q => EXS.exc I' q⟩
  have I1 := I'.step a
  have nw1 := nw.go (a.nw I'.wr)
  refine ⟨fun i m σ2 H2 => m = xs.length - i ∧ i ≤ xs.length ∧ ∃ G2 st2 env2, SInv X.kx G0 H0 st0 G2 H2 st2 env2 σ2 ∧ Nw G1 H1 G2 H2 st2 ∧
    wpM (forN t (exCs Γ n body) (xs.drop i) env2) st2 (OKS X.kx G0 H0 st0 G H D) (EXS ec W G0 H0), ⟨_, rfl, Nat.zero_le _, G1, st1, _, I1, Nw.refl a.wr, q⟩, ?_⟩
  rintro i m σ2 H2 ⟨rfl, hi, G2, st2, env2, I2, nw2, q⟩
  have rel : mRel false G1 H1 G2 H2 st2 := nw2
  by_cases hlt : i < xs.length
  case neg =>
    have e : i = xs.length := by omega
    subst e
    left
    rw [List.drop_length] at q
    exact ⟨wk.stop _ _ _ rel, q G2 H2 σ2 I2 (nw1.go nw2)⟩
  case pos =>
    right
    refine ⟨wk.go _ _ _ _ rel hlt, fun σ' H' => ∃ G2 st2 env2, SInv X.kx G0 H0 st0 G2 H' st2 env2 σ' ∧ Nw G1 H1 G2 H' st2 ∧ wpM (forN t (exCs Γ n body) (xs.drop (i + 1)) env2) st2 (OKS X.kx G0 H0 st0 G H D) (EXS ec W G0 H0),
      fun σ' H' z => ⟨xs.length - (i + 1), by omega, rfl, hlt, z⟩, fun v H3 y => ?_⟩
    obtain ⟨x, hx, a3, rx⟩ := wk.yld _ _ _ _ _ _ rel hlt y
    have ed : xs.drop i = x :: xs.drop (i + 1) := by
      rw [List.drop_eq_getElem_cons hlt]
      rw [get_same hlt] at hx
      cases hx
      rfl
    rw [ed] at q
    unfold forN at q
    rw [wpM_bind] at q
    obtain ⟨env', e1, q⟩ := wpM_ofO q
    rw [asgT_eq] at e1
    cases e2 : asgP t x with
    | none => rw [e2] at e1; cases e1
    | some ps =>
      rw [e2] at e1
      cases e1
      refine ⟨G2, x, ps, rx, e2, fun us hus => ?_⟩
      rw [wpM_bind] at q
      have nw3 := nw2.go (a3.nw I2.wr)
      refine ⟨G0, H0, st0, G2, _, st2, (I2.step a3).puts hus, wpM_mono q (fun r st' q => ?_) fun _ _ z => z⟩
      obtain ⟨f, env'⟩ := r
      cases f with
      | next => exact fun G' H' σ' I' n' => ⟨G', st', env', I', nw3.go n', q⟩
      | ret x fr => exact q
theorem chkSs_ne {sc : Scope} {c : Cmd} {cs : Cmds} {ss : List Stmt} (h : ∀ is, c ≠ .frz is) : chkSs T XT sc (.cons c cs) ss = match ss with | [] => false | s :: ss => chkS T XT sc c s && chkSs T XT sc cs ss := by
  cases c <;> first | exact absurd rfl (h _) | (cases ss <;> rfl)
mutual
theorem sS : ∀ c : Cmd, SS ec Γ T XT n c
  | .asg (.name i) e => sS_asgN
  | .asg (.tup ts) e => sS_asgT
  | .par _ _ => sS_par
  | .seti _ _ _ => sS_seti
  | .augi _ _ _ _ => sS_augi
  | .aug _ _ _ => sS_aug
  | .app _ _ => sS_app
  | .ext _ _ => sS_ext
  | .pop _ _ _ => sS_pop
  | .apppop _ _ _ => sS_apppop
  | .mkcnt _ => sS_mkcnt
  | .expr _ => sS_expr
  | .ret _ => sS_ret
  | .ifs _ a b => sS_ifs (sSs a) (sSs b)
  | .fors _ _ b => sS_fors (sSs b)
  | .whl _ b => sS_whl (sSs b)
  | .raise _ => sS_raise
  | .pass => sS_pass
  | .asgz _ _ => sS_asgz
  | .tryw _ => fun s _ _ _ _ hc => by cases s <;> exact nomatch (show false = true from hc)
  | .fset _ _ _ => sS_fset
  | .fseti _ _ _ _ => sS_fseti
  | .fapp _ _ _ => sS_fapp
  | .forf _ _ _ b => sS_forf (sSs b)
  | .dput _ _ _ => sS_dput
  | .frz _ => fun s _ _ _ _ hc => by cases s <;> exact nomatch (show false = true from hc)
theorem sSs : ∀ c : Cmds, SSs ec Γ T XT n c
  | .nil => fun s X W sc C hc => by
    cases s <;> try exact nomatch (show false = true from hc)
    refine PSs_imp pss_nil fun D σ H ⟨G0, H0, st0, G, env, st, I, q⟩ => ?_
    unfold exCs at q
    exact q G H σ I (Nw.refl I.wr)
  | .cons c cs => fun s X W sc C hc => by
    by_cases hz : ∃ is, c = .frz is
    · obtain ⟨is, rfl⟩ := hz
      have hc' : chkSs T XT sc cs s = true := by cases s <;> exact hc
      refine PSs_imp (sSs cs s X W sc C hc') fun D σ H ⟨G0, H0, st0, G, env, st, I, q⟩ => ?_
      unfold exCs at q
      rw [wpM_bind] at q
      obtain ⟨G', I', nw, _⟩ := I.weak (env' := frzAt is env) frzAt_len fun i x b h => frzAt_get h
      have q2 : wpM (exCs Γ n cs (frzAt is env)) st (OKS X.kx G0 H0 st0 G H D) (EXS ec W G0 H0) := q
      exact ⟨G0, H0, st0, G', _, st, I', wpM_mono q2 (fun r st' q => OKS.mono nw q) fun _ _ z => z⟩
    · rw [chkSs_ne fun is e => hz ⟨is, e⟩] at hc
      cases s with
      | nil => exact nomatch (show false = true from hc)
      | cons s ss =>
        have hc' : (chkS T XT sc c s && chkSs T XT sc cs ss) = true := hc
        rw [Bool.and_eq_true] at hc'
        refine PSs_imp (pss_cons (sS c s X W sc C hc'.1) (sSs cs ss X W sc C hc'.2)) fun D σ H ⟨G0, H0, st0, G, env, st, I, q⟩ => ?_
        unfold exCs at q
        rw [wpM_bind] at q
        refine ⟨G0, H0, st0, G, env, st, I, wpM_mono q (fun r st' q => ?_) fun _ _ z => z⟩
        obtain ⟨f, env'⟩ := r
        cases f with
        | next => exact fun G' H' σ' I' n' => ⟨G0, H0, st0, G', env', st', I', wpM_mono q (fun r st' q => OKS.mono n' q) fun _ _ z => z⟩
        | ret x fr => exact q
end
/-! ### defs -/
theorem wpM_drop {m : M (PV × Bool)} {s : S} {ok : PV × Bool → S → Prop} {ex : Nat → S → Prop} (h : wpM (dropM m) s ok ex) : wpM m s (fun r s' => ok r (drp s.ob.length r.1 s')) (fun k s' => ex k { s' with ob := s'.ob.take s.ob.length }) := by
  unfold wpM dropM at h
  unfold wpM
  cases q : m s with
  | stuck => rw [q] at h; exact h.elim
  | ok r s' => rw [q] at h; exact h
  | exc k s' => rw [q] at h; exact h
/-- the text's def at a name reckons what the term does -/
theorem def_okD {P : Program} {w : World} {K : PySem.W.Frag} {mg : Str → Option Value} {base : Heap} {x qual : Str} {ar : Arguments} {bd : List Stmt} {sc0 : Scope} {f : Addr} {fd : FuncData} {ps : List Str} {k : Nat} (D : Dfn)
    (F : FunD K x qual ar bd sc0 [] [] f fd) (S : FnScope T.N ps sc0) (hps : D.ps = ps.length) (hns : D.ns = T.N.length) (hch : chkSs T XT sc0 D.body bd = true)
    (hC : ∀ (X : Cx) (W : WX), X.prog = P → X.w = w → X.K = K → X.mg = mg → X.base = base → X.env.scope = sc0 → X.N = T.N → X.calm = true → (∀ x, X.fn x = true) → Takes X W → PassesOwn (model X.prog X.w) X.A X.env X.xe → Room k X.A → SCtx ec T XT Γ X W sc0) :
    FnOk P w K mg base (L2.CX P w) (k + 1) f fd ps (spOf ⟨K, P, w⟩ ec (run Γ n D)) := by
  refine F.ok S (fun vs H Q E h => ?_) fun cdv A outer s H vs Q E hr h => ?_
  · obtain ⟨G, xs, st', w', gk, r, q⟩ := h
    unfold run at q
    split at q
    · rename_i hl
      rw [r.length, hl, hps]
    · exact q.elim
  · refine ⟨_, sSs (Γ := Γ) (T := T) (XT := XT) (n := n) D.body bd _ (fun cls d _ H => E cls d H) sc0 (hC _ _ rfl rfl rfl rfl rfl rfl rfl rfl (fun _ => rfl) (takes_of rfl rfl rfl rfl) (passes_of rfl) hr) hch, ?_⟩
    obtain ⟨G, xs, st', w', gk, r, q⟩ := h
    unfold run at q
    split at q
    case isFalse => exact q.elim
    rename_i hl
    replace q := wpM_drop q
    rw [wpM_bind] at q
    have hn : G.oo.length ≤ st'.ob.length := Nat.le_of_eq w'.ol
    refine ⟨G, H, st', G, _, st', ⟨w', After.refl w', ?_, ?_⟩, wpM_mono q (fun rr st2 q => ?_) fun kk st2 q G' H' cls σ' a e => q _ H' cls (a.take hn) e⟩
    · have hlen : (xs.map (fun x => some (x, false)) ++ List.replicate (D.ns - D.ps) none : Envi).length = (L2.start T.N vs).length := by
        unfold L2.start
        rw [List.length_append, List.length_map, List.length_replicate, List.length_append, List.length_map, List.length_replicate, r.length, hl, hns]
      have nt : ∀ (i : Nat) (x : PV), (xs.map (fun x => some (x, false)) ++ List.replicate (D.ns - D.ps) none : Envi)[i]? ≠ some (some (x, true)) := fun i x h => by
        have hm := List.mem_of_getElem? h
        rcases List.mem_append.mp hm with hm | hm
        · obtain ⟨y, _, e⟩ := List.mem_map.mp hm
          cases e
        · have := (List.mem_replicate.mp hm).2
          cases this
      refine ⟨gk, hlen, fun i x h => ?_, fun i x h => absurd h (nt i x), fun i j x y p _ h _ _ => absurd h (nt i x)⟩
      by_cases hi : i < xs.length
      · rw [List.getElem?_append_left (by rw [List.length_map]; exact hi), List.getElem?_map] at h
        rw [List.getElem?_eq_getElem hi] at h
        cases h
        obtain ⟨v, e1, e2⟩ := r.get (List.getElem?_eq_getElem hi)
        refine ⟨v, ?_, e2⟩
        unfold L2.start
        rw [List.getElem?_append_left (by rw [List.length_map, r.length]; exact hi), List.getElem?_map, e1]
        rfl
      · rw [List.getElem?_append_right (by rw [List.length_map]; omega)] at h
        have hm := List.mem_of_getElem? h
        have := (List.mem_replicate.mp hm).2
        cases this
    · intro i x p h
      exfalso
      have hm := List.mem_of_getElem? h
      rcases List.mem_append.mp hm with hm | hm
      · obtain ⟨y, _, e⟩ := List.mem_map.mp hm
        cases e
      · have := (List.mem_replicate.mp hm).2
        cases this
    · obtain ⟨f, env'⟩ := rr
      cases f with
      | next =>
        refine fun G' H' σ' I' n' => ?_
        have q2 : OKE ⟨K, P, w⟩ G H Q (.non, false) (drp st'.ob.length .non st2) := q
        rw [show drp st'.ob.length .non st2 = { st2 with ob := st2.ob.take st'.ob.length } from rfl] at q2
        exact q2 _ H' .non (I'.a.take hn) (by unfold ResOk; rw [if_neg Bool.false_ne_true]; exact .non)
      | ret x fr =>
        refine fun G' H' v a ro => ?_
        have q2 : OKE ⟨K, P, w⟩ G H Q (x, fr) (drp st'.ob.length x st2) := q
        unfold drp at q2
        by_cases ho : x.oLt st'.ob.length = true
        · rw [if_pos ho] at q2
          exact q2 _ H' v (a.take hn) (ro.take _ ho)
        · rw [if_neg ho] at q2
          exact q2 G' H' v a ro
end
end GB

/-! GLaw: a law's text, its terms, its end. -/
namespace GB
open PySem PySem.Spec PyProof.Rows L2
/-- a def of the text: its number, its place and name, its term, its slots' names, its parameters; a method: its class and place there, its full name -/
structure DefI where
  f : Nat
  i : Nat
  x : Str
  D : Dfn
  N : List Str
  ps : List Str
  m : Option (Nat × Nat) := none
  q : Str := x
def topS (p : Program) (i : Nat) : Stmt := p.main.body.getD i (.Pass ⟨0, 0, 0, 0⟩)
def stOf (p : Program) (d : DefI) : Stmt := match d.m with
  | none => topS p d.i
  | some (_, j) => inClass (topS p d.i) j
def keyOf (d : DefI) : Str × Option Str := match d.m with
  | none => (d.x, none)
  | some (c, _) => (clsName c, some d.x)
def isF (f : Nat) (d : DefI) : Bool := d.f == f && d.m.isNone
def isM (f : Nat) (d : DefI) : Bool := d.f == f && d.m.isSome
def ftOf (L : List DefI) (f : Nat) : Option Str := (L.find? (isF f)).map (·.x)
def mtOf (L : List DefI) (f : Nat) : Option (Nat × Str) := match L.find? (isM f) with
  | some d => d.m.map fun m => (m.1, d.x)
  | none => none
def tabOf (L : List DefI) (f : Nat) : Option Dfn := (L.find? (isF f)).map (·.D)
def tmOf (L : List DefI) (f : Nat) : Option Dfn := (L.find? (isM f)).map (·.D)
def xtOf (E : List (Nat × Str)) (k : Nat) : Option Str := E.lookup k
/-- a module's constant: a text, a tuple of ints -/
inductive Gc where
  | str (x z : Str) | tup (x : Str) (is : List Int)
def Gc.x : Gc → Str
  | .str x _ => x
  | .tup x _ => x
def Gc.v : Gc → PV
  | .str _ z => .str z
  | .tup _ is => .tup (is.map .int)
/-- the text's lists: defs, exceptions by number, classes, constants by number -/
structure LT where
  L : List DefI
  E : List (Nat × Str)
  C : List Nat
  G : List (Nat × Gc)
def gtOf (T : LT) (g : Nat) : Option Str := (T.G.lookup g).map Gc.x
def glOf (T : LT) (g : Nat) : Option PV := (T.G.lookup g).map Gc.v
/-- the defs' reckonings, j calls deep, loops of n turns -/
def Gm (tab tm : Nat → Option Dfn) (gl : Nat → Option PV) (n : Nat) : Nat → Gam
  | 0 => ⟨fun _ => none, gl, fun _ => none⟩
  | j + 1 => ⟨fun f => (tab f).map (run (Gm tab tm gl n j) n), gl, fun f => (tm f).map (run (Gm tab tm gl n j) n)⟩
abbrev GmT (T : LT) (n j : Nat) : Gam := Gm (tabOf T.L) (tmOf T.L) (glOf T) n j
def tbOf (T : LT) (d : DefI) : Tb := ⟨d.N, ftOf T.L, gtOf T, mtOf T.L, fun c => T.C.contains c⟩
def fnDef (p : Program) (d : DefI) : He.DefD := ⟨keyOf d, d.x, d.q, defArgs (stOf p d), defBody (stOf p d), defScope (stOf p d), [], []⟩
def fnOfL (p : Program) (L : List DefI) : List He.DefD := L.map (fnDef p)
def faDef (d : DefI) : He.Fa := match d.m with
  | none => .glo d.x
  | some (c, _) => .meth (clsName c) d.x
def faCls (c : Nat) : List He.Fa := [.glo (clsName c), .cls (clsName c), .mkr (clsName c)] ++ (clsFlds c).map (.noat (clsName c))
def faG : Gc → He.Fa
  | .str x z => .str x z
  | .tup x _ => .glo x
def faOf (T : LT) : List He.Fa := T.L.map faDef ++ bltNames.map .free ++ T.E.map (fun e => .glo e.2) ++ T.E.map (fun e => .exc e.2) ++ T.C.flatMap faCls ++ T.G.map (fun g => faG g.2)
def exG (K : PySem.W.Frag) : Gc → Bool
  | .str _ _ => true
  | .tup x is => He.tupB K x (is.map .int)
def exOf (T : LT) (K : PySem.W.Frag) : Bool := T.G.all fun g => exG K g.2
def scopeB (N ps : List Str) (sc : Scope) : Bool := (match sc.kind with | .function => true | _ => false) && !sc.isCoroutine && !sc.isGenerator && decide N.Nodup && decide (N.take ps.length = ps) &&
  ps.all (fun x => match sc.names.lookup x with | some .local => true | some .cell => true | _ => false) && sc.names.all (fun y => match y.2 with | .free => false | _ => true)
def defB (p : Program) (T : LT) (d : DefI) : Bool := scopeB d.N d.ps (defScope (stOf p d)) && decide (d.D.ps = d.ps.length) && decide (d.D.ns = d.N.length) &&
  !(d.x == ("__debug__" : Str)) && (match d.m with | some (c, _) => T.C.contains c && decide (c < 2) | none => true) && chkSs (tbOf T d) (xtOf T.E) (defScope (stOf p d)) d.D.body (defBody (stOf p d))
def excB (E : List (Nat × Str)) : Bool := E.all fun e => !(e.2 == ("__debug__" : Str))
def glbB (T : LT) : Bool := T.G.all fun g => !(g.2.x == ("__debug__" : Str))
theorem scopeB_ok {N ps : List Str} {sc : Scope} (h : scopeB N ps sc = true) : FnScope N ps sc := by
  unfold scopeB at h
  simp only [Bool.and_eq_true, Bool.not_eq_true', decide_eq_true_eq, List.all_eq_true] at h
  obtain ⟨⟨⟨⟨⟨⟨h1, h2⟩, h3⟩, h4⟩, h5⟩, h6⟩, h7⟩ := h
  refine ⟨?_, h2, h3, h4, h5, fun x hx => ?_, fun y hy e => ?_⟩
  · split at h1
    · assumption
    · cases h1
  · have := h6 x hx
    split at this <;> first | exact .inl (by assumption) | exact .inr (by assumption) | cases this
  · have := h7 y hy
    rw [e] at this
    cases this
structure LawCtx (prog : Program) (T : LT) (K : PySem.W.Frag) (mg : Str → Option Value) : Prop where
  ok : T.L.all (defB prog T) = true
  ex : excB T.E = true
  fn : ∀ d ∈ T.L, (match d.m with | none => mg d.x = some (.ref (He.ga K d.x)) | some (c, _) => Meth K (He.ga K (clsName c)) d.x (He.ma K (He.ga K (clsName c)) d.x)) ∧
    ∃ fd, FunD K d.x d.q (defArgs (stOf prog d)) (defBody (stOf prog d)) (defScope (stOf prog d)) [] [] (He.fAd K (keyOf d)) fd ∧ Binds K fd d.ps []
  bn : ∀ x ∈ bltNames, mg x = none
  xc : ∀ e ∈ T.E, mg e.2 = some (.ref (He.ga K e.2)) ∧ (He.Fa.exc e.2).ok K = true
  gl : ∀ g x, glOf T g = some x → ∃ nm u v, gtOf T g = some nm ∧ (nm == ("__debug__" : Str)) = false ∧ mg nm = some u ∧ RelV v u ∧ ∀ P w G H, Rep ⟨K, P, w⟩ G H v x
  cl : ∀ c ∈ T.C, Cls K (He.ga K (clsName c)) ∧ (∀ f ∈ clsFlds c, NoAttr K (He.ga K (clsName c)) f) ∧ Mk K (He.ga K (clsName c)) (He.ma K (He.ga K (clsName c)) "__init__") ∧ mg (clsName c) = some (.ref (He.ga K (clsName c)))
def ecOf (K : PySem.W.Frag) (E : List (Nat × Str)) (k : Nat) : Option Value := (xtOf E k).map fun x => .ref (He.ga K x)
theorem lookup_mem {α : Type} {E : List (Nat × α)} {k : Nat} {x : α} (h : E.lookup k = some x) : (k, x) ∈ E := by
  induction E with
  | nil => cases h
  | cons e E ih =>
    obtain ⟨j, y⟩ := e
    rw [List.lookup_cons] at h
    split at h
    · rename_i hb
      cases h
      have : k = j := by simpa using hb
      subst this
      exact List.mem_cons_self
    · exact List.mem_cons_of_mem _ (ih h)
section
variable {prog : Program} {w : World} {T : LT} {K : PySem.W.Frag} {mg : Str → Option Value} {base : Heap} {n : Nat}
theorem LawCtx.sctx (C : LawCtx prog T K mg) {Γ : Gam} {k : Nat} (hgl : Γ.gl = glOf T)
    (hfn : ∀ f g, Γ.fn f = some g → ∃ d ∈ T.L, d.m = none ∧ ftOf T.L f = some d.x ∧ ∀ fd, FunD K d.x d.q (defArgs (stOf prog d)) (defBody (stOf prog d)) (defScope (stOf prog d)) [] [] (He.fAd K (keyOf d)) fd → FnOk prog w K mg base (L2.CX prog w) k (He.fAd K (keyOf d)) fd d.ps (spOf ⟨K, prog, w⟩ (ecOf K T.E) g))
    (hmt : ∀ f g, Γ.mt f = some g → ∃ d ∈ T.L, ∃ c j, d.m = some (c, j) ∧ mtOf T.L f = some (c, d.x) ∧ ∀ fd, FunD K d.x d.q (defArgs (stOf prog d)) (defBody (stOf prog d)) (defScope (stOf prog d)) [] [] (He.fAd K (keyOf d)) fd → FnOk prog w K mg base (L2.CX prog w) k (He.fAd K (keyOf d)) fd d.ps (spOf ⟨K, prog, w⟩ (ecOf K T.E) g))
    {d : DefI} (hd : d ∈ T.L) (X : Cx) (W : WX) (e1 : X.prog = prog) (e2 : X.w = w) (e3 : X.K = K) (e4 : X.mg = mg) (e5 : X.base = base) (e6 : X.env.scope = defScope (stOf prog d)) (e7 : X.N = d.N) (e8 : X.calm = true) (e9 : ∀ x, X.fn x = true) (tk : Takes X W)
    (hp : PassesOwn (model X.prog X.w) X.A X.env X.xe) (hr : Room (k + 1) X.A) : SCtx (ecOf K T.E) (tbOf T d) (xtOf T.E) Γ X W (defScope (stOf prog d)) := by
  have hb := List.all_eq_true.mp C.ok d hd
  unfold defB at hb
  simp only [Bool.and_eq_true] at hb
  obtain ⟨⟨⟨⟨⟨h1, h2⟩, h3⟩, h4⟩, h5⟩, h6⟩ := hb
  have S := scopeB_ok h1
  subst e1 e2 e3 e4 e5
  refine ⟨⟨e6, e7, S.nd, e8, tk, by have := hr.un; omega, C.bn, fun f g hg => ?_, fun g x hx => ?_, fun x hx => ⟨hx, .inl (e9 x)⟩, fun _ _ _ => trivial, fun c hc => ?_, fun f g hg => ?_⟩, hp, fun k' x hx => ?_⟩
  · obtain ⟨d', hd', em, eft, F⟩ := hfn f g hg
    obtain ⟨m1, fd, F1, B⟩ := C.fn d' hd'
    rw [em] at m1
    have hb' := List.all_eq_true.mp C.ok d' hd'
    unfold defB at hb'
    simp only [Bool.and_eq_true, Bool.not_eq_true'] at hb'
    have ea : He.fAd X.K (keyOf d') = He.ga X.K d'.x := by unfold keyOf; rw [em]; rfl
    rw [ea] at F1
    have F2 := F fd (by rw [ea]; exact F1)
    rw [ea] at F2
    exact ⟨d'.x, _, fd, d'.ps, k, eft, hb'.1.1.2, m1, F1.kp, B, hr.mono (Nat.le_succ k), F2⟩
  · rw [hgl] at hx
    obtain ⟨nm, u, v, a1, a2, a3, a4, a5⟩ := C.gl g x hx
    exact ⟨nm, u, v, a1, a2, a3, a4, fun G H => a5 _ _ G H⟩
  · have hc : T.C.contains c = true := hc
    obtain ⟨a1, a2, a3, a4⟩ := C.cl c (by simpa using hc)
    exact ⟨a1, a2, a3, a4⟩
  · obtain ⟨d', hd', c, j, em, eft, F⟩ := hmt f g hg
    obtain ⟨m1, fd, F1, B⟩ := C.fn d' hd'
    rw [em] at m1
    have ea : He.fAd X.K (keyOf d') = He.ma X.K (He.ga X.K (clsName c)) d'.x := by unfold keyOf; rw [em]; rfl
    have F2 := F fd F1
    rw [ea] at F2
    exact ⟨c, d'.x, fd, d'.ps, k, eft, m1, B, hr, F2⟩
  · have hm := lookup_mem (show T.E.lookup k' = some x from hx)
    obtain ⟨m1, c⟩ := C.xc _ hm
    obtain ⟨c1, c2, c3, c4⟩ := He.exc_ok c
    refine ⟨_, by unfold ecOf; rw [hx]; rfl, fun m j p p2 pos gl => pmk_own PySem.F.excBase_ValueError c1 m1 c2 (raises_own c3 c4) gl ?_⟩
    have := List.all_eq_true.mp C.ex _ hm
    simpa using this
theorem fn_all (C : LawCtx prog T K mg) : ∀ (k : Nat) (d : DefI), d ∈ T.L → ∀ fd, FunD K d.x d.q (defArgs (stOf prog d)) (defBody (stOf prog d)) (defScope (stOf prog d)) [] [] (He.fAd K (keyOf d)) fd →
    FnOk prog w K mg base (L2.CX prog w) (2 * k + 2) (He.fAd K (keyOf d)) fd d.ps (spOf ⟨K, prog, w⟩ (ecOf K T.E) (run (GmT T n k) n d.D)) := by
  intro k
  induction k with
  | zero =>
    intro d hd fd F
    have hb := List.all_eq_true.mp C.ok d hd
    unfold defB at hb
    simp only [Bool.and_eq_true, decide_eq_true_eq] at hb
    obtain ⟨⟨⟨⟨⟨h1, h2⟩, h3⟩, h4⟩, h5⟩, h6⟩ := hb
    exact def_okD (T := tbOf T d) (k := 1) d.D F (scopeB_ok h1) h2 h3 h6 fun X W e1 e2 e3 e4 e5 e6 e7 e8 e9 tk hp hr => C.sctx (Γ := GmT T n 0) (k := 0) rfl (fun f g hg => nomatch hg) (fun f g hg => nomatch hg) hd X W e1 e2 e3 e4 e5 e6 e7 e8 e9 tk hp hr
  | succ k ih =>
    intro d hd fd F
    have hb := List.all_eq_true.mp C.ok d hd
    unfold defB at hb
    simp only [Bool.and_eq_true, decide_eq_true_eq] at hb
    obtain ⟨⟨⟨⟨⟨h1, h2⟩, h3⟩, h4⟩, h5⟩, h6⟩ := hb
    refine def_okD (T := tbOf T d) (k := 2 * k + 3) d.D F (scopeB_ok h1) h2 h3 h6 fun X W e1 e2 e3 e4 e5 e6 e7 e8 e9 tk hp hr => C.sctx (Γ := GmT T n (k + 1)) (k := 2 * k + 2) rfl (fun f g hg => ?_) (fun f g hg => ?_) hd X W e1 e2 e3 e4 e5 e6 e7 e8 e9 tk hp hr
    · have hg : (tabOf T.L f).map (run (GmT T n k) n) = some g := hg
      unfold tabOf at hg
      cases hL : T.L.find? (isF f) with
      | none => rw [hL] at hg; cases hg
      | some d' =>
        rw [hL] at hg
        cases hg
        have hm := List.mem_of_find?_eq_some hL
        have hf := List.find?_some hL
        unfold isF at hf
        rw [Bool.and_eq_true] at hf
        exact ⟨d', hm, by simpa using hf.2, by unfold ftOf; rw [hL]; rfl, fun fd' F' => ih d' hm fd' F'⟩
    · have hg : (tmOf T.L f).map (run (GmT T n k) n) = some g := hg
      unfold tmOf at hg
      cases hL : T.L.find? (isM f) with
      | none => rw [hL] at hg; cases hg
      | some d' =>
        rw [hL] at hg
        cases hg
        have hm := List.mem_of_find?_eq_some hL
        have hf := List.find?_some hL
        unfold isM at hf
        rw [Bool.and_eq_true] at hf
        obtain ⟨⟨c, j⟩, em⟩ := Option.isSome_iff_exists.mp hf.2
        exact ⟨d', hm, c, j, em, by unfold mtOf; rw [hL]; simp only [em]; rfl, fun fd' F' => ih d' hm fd' F'⟩
end
/-- the law's own promise from its reckoning -/
theorem sp_law {K : KX} {ec : Nat → Option Value} {g : List PV → M (PV × Bool)} {H : Hp} {a : Addr} {ns : List Int} (ho : Only H) (hS : L2.SqL K.K H a (ns.map V.int)) {st' : S} (h : g [.scr ns] ⟨none, []⟩ = .ok (.bl true, false) st') :
    spOf K ec g [.ref a] H (fun v _ => v = .bl true) fun _ _ _ => False := by
  have nm : ∀ p, ¬ (⟨fun p => ∃ o, H p = some o, none, K, [], fun _ => False⟩ : Gh).mut p := fun p m => m.elim (fun z => nomatch z) id
  refine ⟨⟨fun p => ∃ o, H p = some o, none, K, [], fun _ => False⟩, [.scr ns], ⟨none, []⟩, ⟨⟨fun p _ => nm p, fun p h => h, rfl, fun _ h => (nomatch h), fun _ h => False.elim h⟩, rfl, fun _ _ _ h => (nomatch h), fun _ _ _ _ _ _ _ _ _ h => (nomatch h), fun _ _ _ _ h => (nomatch h)⟩, rfl, .cons (.scr ?_) .nil, ?_⟩
  · rcases hS with (h1 | ⟨o, h1⟩) | h1
    · exact .inl ⟨⟨_, h1⟩, .inl h1⟩
    · exact .inl ⟨⟨_, h1⟩, .inr ⟨o, h1⟩⟩
    · exact .inr (.inr h1)
  · unfold wpM
    rw [h]
    intro G' H' v _ ro
    unfold ResOk at ro
    rw [if_neg Bool.false_ne_true] at ro
    cases ro
    rfl
/-! ### the head's facts -/
def obsB (n : Nat) (fa : List He.Fa) (fn : List He.DefD) (ex : PySem.W.Frag → Bool) (g : Addr → Option Obj) : He.AlD := (ex (He.frG g (He.asD g n)) && ((fa.all fun f => f.ok (He.frG g (He.asD g n))) && fn.all fun d => d.ok (He.frG g (He.asD g n))), fn.map fun d => He.fnW (He.frG g (He.asD g n)) d.at_)
def SaysB (fa : List He.Fa) (fn : List He.DefD) (ex : PySem.W.Frag → Bool) (K : PySem.W.Frag) : Prop := ((ex K && ((fa.all fun f => f.ok K) && fn.all fun d => d.ok K), fn.map fun d => He.fnW K d.at_) : He.AlD) = He.valD fn
def hookB (n : Nat) (fa : List He.Fa) (fn : List He.DefD) (ex : PySem.W.Frag → Bool) : PySem.W.Hook where
  α := He.AlD
  obs := fun s => obsB n fa fn ex s.heap.get?
  val := fun _ => He.valD fn
  says := fun _ h => ∃ K : PySem.W.Frag, K.In h ∧ SaysB fa fn ex K
  of := fun _ _ e => ⟨_, He.frG_in, e⟩
  keeps := fun _ _ _ ⟨K, hK, c⟩ k => ⟨K, PySem.W.Frag.In.keeps hK k, c⟩
theorem obsB_eq {n : Nat} {fa : List He.Fa} {fn : List He.DefD} {ex : PySem.W.Frag → Bool} {g : Addr → Option Obj} {s : Shared} (h : ∀ a, g a = s.heap.get? a) : obsB n fa fn ex g = (hookB n fa fn ex).obs s := by
  have e : g = s.heap.get? := funext h
  rw [e] <;> rfl
theorem SaysB.d {fa : List He.Fa} {fn : List He.DefD} {ex : PySem.W.Frag → Bool} {K : PySem.W.Frag} (c : SaysB fa fn ex K) : He.SaysD fa fn K ∧ ex K = true := by
  unfold SaysB He.valD at c
  unfold He.SaysD He.obsD He.valD
  injection c with c1 c2
  rw [Bool.and_eq_true] at c1
  exact ⟨by rw [c1.2, c2], c1.1⟩
/-- the facts that the head tells -/
theorem law_ctx {prog : Program} {T : LT} {K : PySem.W.Frag} {h : Heap} {mg : Str → Option Value} (KX : K.In h) (G : h.Ns mainGlobals mg) (c0 : SaysB (faOf T) (fnOfL prog T.L) (exOf T) K)
    (ok : T.L.all (defB prog T) = true) (ex : excB T.E = true) (gb : glbB T = true) (bind : ∀ d ∈ T.L, ∀ (kV doc pm : Value) (an : Option Addr) (cdv ct : Value) (us : List Value), us.length = d.ps.length → bindArgs (PySem.W.fnOf d.x d.q (defArgs (stOf prog d)) (defBody (stOf prog d)) (defScope (stOf prog d)) .none kV doc pm an cdv ct) ⟨us, []⟩ = pure (d.ps.zip us)) : LawCtx prog T K mg := by
  obtain ⟨c, cx⟩ := c0.d
  have fact : ∀ f ∈ faOf T, f.ok K = true := fun f hf => by
    obtain ⟨i, hi⟩ := List.getElem?_of_mem hf
    exact c.fact i hi
  have inL : ∀ d ∈ T.L, faDef d ∈ faOf T := fun d hd => by
    unfold faOf
    simp only [List.mem_append]
    exact .inl (.inl (.inl (.inl (.inl (List.mem_map.mpr ⟨d, hd, rfl⟩)))))
  have inC : ∀ k ∈ T.C, ∀ f ∈ faCls k, f ∈ faOf T := fun k hk f hf => by
    unfold faOf
    simp only [List.mem_append]
    exact .inl (.inr (List.mem_flatMap.mpr ⟨k, hk, hf⟩))
  refine ⟨ok, ex, fun d hd => ?_, fun x hx => ?_, fun e he => ?_, fun g x hg => ?_, fun k hk => ?_⟩
  · have hm := inL d hd
    obtain ⟨i, hi⟩ := List.getElem?_of_mem (show fnDef prog d ∈ fnOfL prog T.L from List.mem_map.mpr ⟨d, hd, rfl⟩)
    obtain ⟨fd, F⟩ := c.def_ i hi
    refine ⟨?_, fd, F, FunD.bindsN F (bind d hd)⟩
    unfold faDef at hm
    cases em : d.m with
    | none =>
      rw [em] at hm
      exact He.glo_ok KX G (fact _ hm)
    | some cj =>
      rw [em] at hm
      obtain ⟨k, j⟩ := cj
      exact He.meth_ok (fact _ hm)
  · refine He.free_ok KX G (fact _ ?_)
    unfold faOf
    simp only [List.mem_append]
    exact .inl (.inl (.inl (.inl (.inr (List.mem_map.mpr ⟨x, hx, rfl⟩)))))
  · refine ⟨He.glo_ok KX G (fact _ ?_), fact _ ?_⟩
    · unfold faOf
      simp only [List.mem_append]
      exact .inl (.inl (.inl (.inr (List.mem_map.mpr ⟨e, he, rfl⟩))))
    · unfold faOf
      simp only [List.mem_append]
      exact .inl (.inl (.inr (List.mem_map.mpr ⟨e, he, rfl⟩)))
  · unfold glOf at hg
    cases hl : T.G.lookup g with
    | none => rw [hl] at hg; cases hg
    | some gc =>
      rw [hl] at hg
      cases hg
      have hm := lookup_mem hl
      have hf : (faG gc).ok K = true := fact _ (by
        unfold faOf
        simp only [List.mem_append]
        exact .inr (List.mem_map.mpr ⟨_, hm, rfl⟩))
      have hd := List.all_eq_true.mp gb _ hm
      have hx := List.all_eq_true.mp cx _ hm
      have en : gtOf T g = some gc.x := by unfold gtOf; rw [hl]; rfl
      cases gc with
      | str x z =>
        obtain ⟨t, e⟩ := He.str_ok KX G hf
        exact ⟨x, _, .str z, en, by simpa [Gc.x] using hd, e, ⟨t, rfl⟩, fun _ _ _ _ => .str z⟩
      | tup x is =>
        have e := He.glo_ok KX G hf
        refine ⟨x, _, .ref (He.ga K x), en, by simpa [Gc.x] using hd, e, rfl, fun P w G' H => .tup (He.tupB_ok hx H) ?_⟩
        have : ∀ is : List Int, Reps ⟨K, P, w⟩ G' H ((is.map He.Dv.int).map (He.Dv.v K)) (is.map .int) := fun is => by
          induction is with
          | nil => exact .nil
          | cons i is ih => exact .cons (.int i) ih
        exact this is
  · refine ⟨He.cls_ok (fact _ (inC k hk _ ?_)), fun f hf => He.noat_ok (fact _ (inC k hk _ ?_)), He.mkr_ok (fact _ (inC k hk _ ?_)), He.glo_ok KX G (fact _ (inC k hk _ ?_))⟩
    · unfold faCls; simp
    · unfold faCls; simp only [List.mem_append]; exact .inr (List.mem_map.mpr ⟨f, hf, rfl⟩)
    · unfold faCls; simp
    · unfold faCls; simp
/-- the law's end: the promise may let out what a def of the layer lets out -/
theorem law_end {l : PySem.W.OpenLaw} {q : Program} {loose : List Str} {XP : (Str → Option Value) → Heap → Prop} {YP : World → Heap → Prop} {d : DefRec} {k : Nat} {x : Str} (hn : l.most = some 63) (hdf : d.params.defaults = []) (hr : Room k callerA)
    (F : ∀ (w : World) (mg : Str → Option Value) (fa : Addr) (h : Heap), YP w h → h.Ns mainGlobals mg → mg d.name = some (.ref fa) → ∃ (K : PySem.W.Frag) (fd : FuncData) (sp : Sp), K.In h ∧ (∀ (s : Shared) (u : Value), BindsTo s fd ⟨[u], []⟩ [(x, u)]) ∧
      (∀ (H : Hp) (a : Addr) (ns : List Int), ns.length ≤ 63 → Only H → L2.SqL K H a (ns.map V.int) → sp [.ref a] H (fun v _ => v = .bl true) fun _ _ _ => False) ∧ ∀ base : Heap, K.In base → base.Ns mainGlobals mg → FnOk l.prog w K mg base (L2.CX l.prog w) k fa fd [x] sp) :
    PySem.W.WalkO q loose XP YP l.row.toRowW d [] (fun f vs => PySem.call f vs) := by
  refine Att.attach_call hn hdf fun w s₀ s₁ mg mb fa o pm cd doc a vs ns G Y ho hd hcd hmg hobj hints hlen hg => ?_
  obtain ⟨K, fd, sp, KX, hb, hsp, hF⟩ := F w mg fa _ Y G.T.g hmg
  refine law_call KX G.T.g G.T.b G.T.builtins G.T.nolimit hg hobj hints (Nat.le_trans hlen (by rw [sizeLine_eq]; decide)) hr hF hb (fun H hO hS => hsp H a ns hlen hO hS) fun H e s' c => ?_
  obtain ⟨_, _, _, _, _, _, _, _, _, _, _, _, z⟩ := c
  exact z
end GB

/-! GMath: reckoning with the small language: rules for wpM. -/
namespace GB
open PySem
/-- it ends without an exception, so that Q -/
def Ok {α : Type} (m : M α) (s : S) (Q : α → S → Prop) : Prop := wpM m s Q (fun _ _ => False)
@[simp] theorem ok_ret {α : Type} {a : α} {s : S} {Q : α → S → Prop} : Ok (M.ret a) s Q = Q a s := rfl
@[simp] theorem ok_bind {α β : Type} {m : M α} {f : α → M β} {s : S} {Q : β → S → Prop} : Ok (M.bind m f) s Q = Ok m s (fun a s' => Ok (f a) s' Q) := wpM_bind
@[simp] theorem ok_some {α : Type} {a : α} {s : S} {Q : α → S → Prop} : Ok (ofO (some a)) s Q = Q a s := rfl
@[simp] theorem ok_none {α : Type} {s : S} {Q : α → S → Prop} : Ok (ofO (none : Option α)) s Q = False := rfl
@[simp] theorem ok_stuck {α : Type} {s : S} {Q : α → S → Prop} : Ok (M.stuck : M α) s Q = False := rfl
@[simp] theorem ok_fst {m : M (PV × Bool)} {s : S} {Q : PV → S → Prop} : Ok (fstM m) s Q = Ok m s (fun r s' => Q r.1 s') := by unfold fstM; rw [ok_bind]; rfl
@[simp] theorem ok_noexc {α : Type} {m : M α} {s : S} {Q : α → S → Prop} : Ok (M.noexc m) s Q = Ok m s Q := by
  unfold Ok wpM M.noexc
  cases m s <;> rfl
theorem Ok.mono {α : Type} {m : M α} {s : S} {Q Q' : α → S → Prop} (h : Ok m s Q) (k : ∀ a s', Q a s' → Q' a s') : Ok m s Q' := wpM_mono h k fun _ _ z => z
theorem ok_eq {α : Type} {m : M α} {s : S} {Q : α → S → Prop} {a : α} {s' : S} (h : m s = .ok a s') (q : Q a s') : Ok m s Q := by
  unfold Ok wpM
  rw [h]
  exact q
theorem Ok.ex {α : Type} {m : M α} {s : S} {Q : α → S → Prop} (h : Ok m s Q) : ∃ a s', m s = .ok a s' ∧ Q a s' := by
  unfold Ok wpM at h
  cases q : m s with
  | stuck => rw [q] at h; exact h.elim
  | ok a s' => rw [q] at h; exact ⟨a, s', rfl, h⟩
  | exc k s' => rw [q] at h; exact h.elim
section
variable {Γ : Gam} {l : Bool} {n : Nat} {env : Envi} {s : S} {Q : PV × Bool → S → Prop} {Qs : List PV → S → Prop} {Qc : Fl × Envi → S → Prop} {Qb : Bool → S → Prop}
@[simp] theorem o_varT {i : Nat} : Ok (evE Γ true (.var i) env) s Q = Ok (ofO ((getB env i).map fun x => (x, false))) s Q := by
  rw [show evE Γ true (.var i) env = ofO (match getB env i with | some x => some (x, false) | none => none) from rfl]; cases getB env i <;> rfl
@[simp] theorem o_varF {i : Nat} : Ok (evE Γ false (.var i) env) s Q = Ok (ofO ((getZ env i).map fun x => (x, false))) s Q := by
  rw [show evE Γ false (.var i) env = ofO (match getZ env i with | some x => some (x, false) | none => none) from rfl]; cases getZ env i <;> rfl
@[simp] theorem o_int {i : Int} : Ok (evE Γ l (.int i) env) s Q = Q (.int i, false) s := rfl
@[simp] theorem o_str {i : Str} : Ok (evE Γ l (.str i) env) s Q = Q (.str i, false) s := rfl
@[simp] theorem o_bl {i : Bool} : Ok (evE Γ l (.bl i) env) s Q = Q (.bl i, false) s := rfl
@[simp] theorem o_non : Ok (evE Γ l .non env) s Q = Q (.non, false) s := rfl
@[simp] theorem o_tup {es : Exs} : Ok (evE Γ l (.tup es) env) s Q = Ok (evals Γ es env) s (fun xs s' => Q (.tup xs, false) s') := by
  rw [show evE Γ l (.tup es) env = M.bind (evals Γ es env) fun xs => M.ret (.tup xs, false) from rfl]; simp only [ok_bind, ok_ret]
@[simp] theorem o_lst {es : Exs} : Ok (evE Γ l (.lst es) env) s Q = Ok (evals Γ es env) s (fun xs s' => Q (.lst xs, true) s') := by
  rw [show evE Γ l (.lst es) env = M.bind (evals Γ es env) fun xs => M.ret (.lst xs, true) from rfl]; simp only [ok_bind, ok_ret]
@[simp] theorem o_bin {op : BOp} {a b : Ex} : Ok (evE Γ l (.bin op a b) env) s Q = Ok (evE Γ true a env) s (fun x s' => Ok (evE Γ true b env) s' (fun y s' => Ok (ofO (binop op x.1 y.1)) s' Q)) := by
  rw [show evE Γ l (.bin op a b) env = M.bind (fstM (evE Γ true a env)) fun x => M.bind (fstM (evE Γ true b env)) fun y => ofO (binop op x y) from rfl]; simp only [ok_bind, ok_fst]
@[simp] theorem o_neg {a : Ex} : Ok (evE Γ l (.neg a) env) s Q = Ok (evE Γ true a env) s (fun x s' => Ok (ofO (match x.1 with | .int i => some (PV.int (-i), false) | _ => none)) s' Q) := by
  rw [show evE Γ l (.neg a) env = M.bind (fstM (evE Γ true a env)) fun x => ofO (match x with | .int i => some (.int (-i), false) | _ => none) from rfl]; simp only [ok_bind, ok_fst]
@[simp] theorem o_not {a : Ex} : Ok (evE Γ l (.not a) env) s Q = Ok (evE Γ true a env) s (fun x s' => Ok (ofO ((asBool x.1).map fun b => (PV.bl (!b), false))) s' Q) := by
  rw [show evE Γ l (.not a) env = M.bind (fstM (evE Γ true a env)) fun x => ofO (match asBool x with | some b => some (.bl (!b), false) | none => none) from rfl]; simp only [ok_bind, ok_fst]; congr; funext x s'; cases asBool x.1 <;> rfl
@[simp] theorem o_cmp {op : COp} {a b : Ex} : Ok (evE Γ l (.cmp op a b) env) s Q = Ok (evE Γ true a env) s (fun x s' => Ok (evE Γ true b env) s' (fun y s' => Ok (ofO ((cmpop op x.1 y.1).map fun c => (PV.bl c, false))) s' Q)) := by
  rw [show evE Γ l (.cmp op a b) env = M.bind (fstM (evE Γ true a env)) fun x => M.bind (fstM (evE Γ true b env)) fun y => ofO (match cmpop op x y with | some c => some (.bl c, false) | none => none) from rfl]; simp only [ok_bind, ok_fst]; congr; funext x s'; congr; funext y s''; cases cmpop op x.1 y.1 <;> rfl
@[simp] theorem o_cmp2 {op op' : COp} {a b c : Ex} : Ok (evE Γ l (.cmp2 op op' a b c) env) s Q = Ok (evE Γ true a env) s (fun x s' => Ok (evE Γ true b env) s' (fun y s' => Ok (ofO (cmpop op x.1 y.1)) s' fun r s' =>
    if r = true then Ok (evE Γ true c env) s' (fun z s' => Ok (ofO ((cmpop op' y.1 z.1).map fun c => (PV.bl c, false))) s' Q) else Q (.bl false, false) s')) := by
  rw [show evE Γ l (.cmp2 op op' a b c) env = M.bind (fstM (evE Γ true a env)) fun x => M.bind (fstM (evE Γ true b env)) fun y => M.bind (ofO (cmpop op x y)) fun r => if r then M.bind (fstM (evE Γ true c env)) fun z => ofO (match cmpop op' y z with | some c => some (.bl c, false) | none => none) else M.ret (.bl false, false) from rfl]
  simp only [ok_bind, ok_fst]; congr; funext x s'; congr; funext y s''; congr; funext r s'''
  cases r
  · rfl
  · simp only [if_true, ok_bind, ok_fst]; congr; funext z s4; cases cmpop op' y.1 z.1 <;> rfl
@[simp] theorem o_and {es : Exs} : Ok (evE Γ l (.and es) env) s Q = Ok (evalAnd Γ es env) s Q := rfl
@[simp] theorem o_or {es : Exs} : Ok (evE Γ l (.or es) env) s Q = Ok (evalOr Γ es env) s Q := rfl
@[simp] theorem o_andN : Ok (evalAnd Γ .nil env) s Q = Q (.bl true, false) s := rfl
@[simp] theorem o_orN : Ok (evalOr Γ .nil env) s Q = Q (.bl false, false) s := rfl
@[simp] theorem o_andC {e : Ex} {es : Exs} : Ok (evalAnd Γ (.cons e es) env) s Q = Ok (evE Γ true e env) s (fun x s' => Ok (ofO (asBool x.1)) s' fun b s' => if b = true then Ok (evalAnd Γ es env) s' Q else Q (.bl false, false) s') := by
  rw [show evalAnd Γ (.cons e es) env = M.bind (fstM (evE Γ true e env)) fun x => M.bind (ofO (asBool x)) fun b => if b then evalAnd Γ es env else M.ret (.bl false, false) from rfl]
  simp only [ok_bind, ok_fst]; congr; funext x s'; congr; funext b s''; cases b <;> rfl
@[simp] theorem o_orC {e : Ex} {es : Exs} : Ok (evalOr Γ (.cons e es) env) s Q = Ok (evE Γ true e env) s (fun x s' => Ok (ofO (asBool x.1)) s' fun b s' => if b = true then Q (.bl true, false) s' else Ok (evalOr Γ es env) s' Q) := by
  rw [show evalOr Γ (.cons e es) env = M.bind (fstM (evE Γ true e env)) fun x => M.bind (ofO (asBool x)) fun b => if b then M.ret (.bl true, false) else evalOr Γ es env from rfl]
  simp only [ok_bind, ok_fst]; congr; funext x s'; congr; funext b s''; cases b <;> rfl
@[simp] theorem o_csN : Ok (evalCs Γ .nil env) s Qb = Qb true s := rfl
@[simp] theorem o_csC {e : Ex} {es : Exs} : Ok (evalCs Γ (.cons e es) env) s Qb = Ok (evE Γ true e env) s (fun x s' => Ok (ofO (asBool x.1)) s' fun b s' => if b = true then Ok (evalCs Γ es env) s' Qb else Qb false s') := by
  rw [show evalCs Γ (.cons e es) env = M.bind (fstM (evE Γ true e env)) fun x => M.bind (ofO (asBool x)) fun b => if b then evalCs Γ es env else M.ret false from rfl]
  simp only [ok_bind, ok_fst]; congr; funext x s'; congr; funext b s''; cases b <;> rfl
@[simp] theorem o_ite {c a b : Ex} : Ok (evE Γ l (.ite c a b) env) s Q = Ok (evE Γ true c env) s (fun x s' => Ok (ofO (asBool x.1)) s' fun t s' => if t = true then Ok (evE Γ false a env) s' Q else Ok (evE Γ false b env) s' Q) := by
  rw [show evE Γ l (.ite c a b) env = M.bind (fstM (evE Γ true c env)) fun x => M.bind (ofO (asBool x)) fun t => if t then evE Γ false a env else evE Γ false b env from rfl]
  simp only [ok_bind, ok_fst]; congr; funext x s'; congr; funext b s''; cases b <;> rfl
@[simp] theorem o_idx {a i : Ex} : Ok (evE Γ l (.idx a i) env) s Q = Ok (evE Γ true a env) s (fun x s' => Ok (evE Γ true i env) s' (fun y s' => Ok (ofO ((idxop x.1 y.1).map fun z => (z, false))) s' Q)) := by
  rw [show evE Γ l (.idx a i) env = M.bind (fstM (evE Γ true a env)) fun x => M.bind (fstM (evE Γ true i env)) fun y => ofO (match idxop x y with | some z => some (z, false) | none => none) from rfl]; simp only [ok_bind, ok_fst]; congr; funext x s'; congr; funext y s''; cases idxop x.1 y.1 <;> rfl
theorem ok_lent {m : M (PV × Bool)} {s : S} {Q : PV × Bool → S → Prop} (h : Ok m s fun r s' => immR r = true ∧ sameV s s' = true ∧ Q r { s' with ob := s.ob }) : Ok (lentM m) s Q := by
  unfold Ok wpM at h ⊢
  unfold lentM
  cases q : m s with
  | stuck => rw [q] at h; exact h.elim
  | ok r s' =>
    rw [q] at h
    obtain ⟨h1, h2, h3⟩ := h
    simp only [h1, h2, Bool.and_self, if_true]
    exact h3
  | exc k s' => rw [q] at h; exact h.elim
@[simp] theorem o_call {f : Nat} {es : Exs} : Ok (evE Γ l (.call f es) env) s Q = Ok (ofO (Γ.fn f)) s (fun g s' => Ok (evalsB Γ es env) s' (fun xs s' => if bor es env = true then Ok (lentM (g xs)) s' Q else Ok (g xs) s' Q)) := by
  rw [show evE Γ l (.call f es) env = M.bind (ofO (Γ.fn f)) fun g => M.bind (evalsB Γ es env) fun xs => if bor es env then lentM (g xs) else g xs from rfl]
  simp only [ok_bind]; congr; funext g s'; congr; funext xs s''
  cases bor es env <;> rfl
@[simp] theorem o_blt {f : Blt} {es : Exs} : Ok (evE Γ l (.blt f es) env) s Q = Ok (evalsB Γ es env) s (fun xs s' => Ok (blt f xs) s' Q) := by
  rw [show evE Γ l (.blt f es) env = M.bind (evalsB Γ es env) fun xs => blt f xs from rfl]; rw [ok_bind]
@[simp] theorem o_isi {a : Ex} {t : Ty} : Ok (evE Γ l (.isi a t) env) s Q = Ok (evE Γ true a env) s (fun x s' => Ok (ofO ((tyOf x.1 t).map fun b => (PV.bl b, false))) s' Q) := by
  rw [show evE Γ l (.isi a t) env = M.bind (fstM (evE Γ true a env)) fun x => ofO (match tyOf x t with | some b => some (.bl b, false) | none => none) from rfl]; simp only [ok_bind, ok_fst]; congr; funext x s'; cases tyOf x.1 t <;> rfl
@[simp] theorem o_sli {a lo hi : Ex} : Ok (evE Γ l (.sli a lo hi) env) s Q = Ok (evE Γ true a env) s (fun x s' =>
    Ok (if isOmit lo then M.ret none else M.bind (fstM (evE Γ true lo env)) fun x => ofO (match asIntO x with | some i => some (some i) | none => none)) s' fun lo s' =>
    Ok (if isOmit hi then M.ret none else M.bind (fstM (evE Γ true hi env)) fun x => ofO (match asIntO x with | some i => some (some i) | none => none)) s' fun hi s' => Ok (ofO (cutop x.1 lo hi)) s' Q) := by
  rw [show evE Γ l (.sli a lo hi) env = M.bind (fstM (evE Γ true a env)) fun x => M.bind (if isOmit lo then M.ret none else M.bind (fstM (evE Γ true lo env)) fun x => ofO (match asIntO x with | some i => some (some i) | none => none)) fun l => M.bind (if isOmit hi then M.ret none else M.bind (fstM (evE Γ true hi env)) fun x => ofO (match asIntO x with | some i => some (some i) | none => none)) fun h => ofO (cutop x l h) from rfl]; simp only [ok_bind, ok_fst]
@[simp] theorem o_esN : Ok (evals Γ .nil env) s Qs = Qs [] s := rfl
@[simp] theorem o_esC {e : Ex} {es : Exs} : Ok (evals Γ (.cons e es) env) s Qs = Ok (evE Γ false e env) s (fun r s' => Ok (evals Γ es env) s' (fun xs s' => Qs (r.1 :: xs) s')) := by
  rw [show evals Γ (.cons e es) env = M.bind (evE Γ false e env) fun r => M.bind (evals Γ es env) fun xs => M.ret (r.1 :: xs) from rfl]; simp only [ok_bind, ok_ret]
@[simp] theorem o_bsN : Ok (evalsB Γ .nil env) s Qs = Qs [] s := rfl
@[simp] theorem o_bsC {e : Ex} {es : Exs} : Ok (evalsB Γ (.cons e es) env) s Qs = Ok (evE Γ true e env) s (fun r s' => Ok (evalsB Γ es env) s' (fun xs s' => Qs (r.1 :: xs) s')) := by
  rw [show evalsB Γ (.cons e es) env = M.bind (fstM (evE Γ true e env)) fun x => M.bind (evalsB Γ es env) fun xs => M.ret (x :: xs) from rfl]; simp only [ok_bind, ok_ret, ok_fst]
@[simp] theorem o_blt' {f : Blt} {xs : List PV} (h : xs ≠ [.cnt]) : Ok (blt f xs) s Q = Ok (ofO (bltop f xs)) s Q := by
  have : blt f xs = ofO (bltop f xs) := by
    funext s
    unfold blt
    split
    · exact absurd rfl h
    · rfl
  rw [this]
theorem o_lenC {k : Nat} (h : s.cnt = some k) : Ok (blt .len [.cnt]) s Q = Q (.int k, false) s := by
  unfold Ok wpM blt
  simp only [h]
/-! ### what is walked -/
@[simp] theorem o_val {e : Ex} : Ok (evalIt Γ (.val e) env) s Qs = Ok (evE Γ true e env) s (fun x s' => Ok (ofO (seqOf x.1)) s' Qs) := by
  rw [show evalIt Γ (.val e) env = M.bind (fstM (evE Γ true e env)) fun x => ofO (seqOf x) from rfl]; simp only [ok_bind, ok_fst]
@[simp] theorem o_range1 {e : Ex} : Ok (evalIt Γ (.range1 e) env) s Qs = Ok (evE Γ true e env) s (fun x s' => Ok (ofO (match asIntO x.1 with | some n => if rngOk 0 n then some (rangeW 0 n) else none | none => none)) s' Qs) := by
  rw [show evalIt Γ (.range1 e) env = M.bind (fstM (evE Γ true e env)) fun x => ofO (match asIntO x with | some n => if rngOk 0 n then some (rangeW 0 n) else none | none => none) from rfl]; simp only [ok_bind, ok_fst]
@[simp] theorem o_range2 {a b : Ex} : Ok (evalIt Γ (.range2 a b) env) s Qs = Ok (evE Γ true a env) s (fun x s' => Ok (evE Γ true b env) s' (fun y s' => Ok (ofO (match asIntO x.1, asIntO y.1 with | some m, some n => if rngOk m n then some (rangeW m n) else none | _, _ => none)) s' Qs)) := by
  rw [show evalIt Γ (.range2 a b) env = M.bind (fstM (evE Γ true a env)) fun x => M.bind (fstM (evE Γ true b env)) fun y => ofO (match asIntO x, asIntO y with | some m, some n => if rngOk m n then some (rangeW m n) else none | _, _ => none) from rfl]; simp only [ok_bind, ok_fst]
@[simp] theorem o_enum {e : Ex} : Ok (evalIt Γ (.enum e) env) s Qs = Ok (evE Γ true e env) s (fun x s' => Ok (ofO ((seqOf x.1).map (enumW 0))) s' Qs) := by
  rw [show evalIt Γ (.enum e) env = M.bind (fstM (evE Γ true e env)) fun x => ofO (match seqOf x with | some xs => some (enumW 0 xs) | none => none) from rfl]; simp only [ok_bind, ok_fst]; congr; funext x s'; cases seqOf x.1 <;> rfl
@[simp] theorem o_zip2 {a b : Ex} : Ok (evalIt Γ (.zip2 a b) env) s Qs = Ok (evE Γ true a env) s (fun x s' => Ok (evE Γ true b env) s' (fun y s' => Ok (ofO (match seqOf x.1, seqOf y.1 with | some xs, some ys => some (zipW2 xs ys) | _, _ => none)) s' Qs)) := by
  rw [show evalIt Γ (.zip2 a b) env = M.bind (fstM (evE Γ true a env)) fun x => M.bind (fstM (evE Γ true b env)) fun y => ofO (match seqOf x, seqOf y with | some xs, some ys => some (zipW2 xs ys) | _, _ => none) from rfl]; simp only [ok_bind, ok_fst]
def compF (Γ : Gam) (elt : Ex) (tg : Tg) (cs : Exs) (env : Envi) (v : PV) : M (Option PV) := M.bind (ofO (asgT tg v env)) fun env' => M.bind (evalCs Γ cs env') fun b => if b then M.bind (evE Γ false elt env') fun y => M.ret (some y.1) else M.ret none
@[simp] theorem o_comp {elt : Ex} {tg : Tg} {it : Src} {cs : Exs} : Ok (evE Γ l (.comp elt tg it cs) env) s Q = Ok (evalIt Γ it env) s (fun xs s' => if xs.length ≤ lim then Ok (mapMx (compF Γ elt tg cs env) xs) s' (fun ys s' => Q (.lst ys, true) s') else False) := by
  rw [show evE Γ l (.comp elt tg it cs) env = M.bind (evalIt Γ it env) fun xs => if xs.length ≤ lim then M.noexc (M.bind (mapMx (compF Γ elt tg cs env) xs) fun ys => M.ret (.lst ys, true)) else M.stuck from rfl]
  simp only [ok_bind]; congr; funext xs s'
  split
  · simp only [ok_noexc, ok_bind, ok_ret]
  · rfl
/-- one turn of a comprehension -/
theorem o_compF {elt : Ex} {tg : Tg} {cs : Exs} {v : PV} {Qo : Option PV → S → Prop} : Ok (compF Γ elt tg cs env v) s Qo = Ok (ofO (asgT tg v env)) s (fun env' s' => Ok (evalCs Γ cs env') s' fun b s' => if b = true then Ok (evE Γ false elt env') s' (fun y s' => Qo (some y.1) s') else Qo none s') := by
  unfold compF; simp only [ok_bind]; congr; funext e s'; congr; funext b s''
  cases b
  · rfl
  · simp only [if_true, ok_bind, ok_ret]
/-- where each turn keeps the state and gives f -/
theorem ok_map {f : PV → M (Option PV)} {g : PV → Option PV} {xs : List PV} (h : ∀ x ∈ xs, ∀ Qo : Option PV → S → Prop, Qo (g x) s → Ok (f x) s Qo) (q : Qs (xs.filterMap g) s) : Ok (mapMx f xs) s Qs := by
  induction xs generalizing Qs with
  | nil => exact q
  | cons x xs ih =>
    unfold mapMx
    rw [ok_bind]
    refine h x List.mem_cons_self _ ?_
    rw [ok_bind]
    refine ih (fun y hy => h y (List.mem_cons_of_mem _ hy)) ?_
    cases e : g x with
    | none => rw [List.filterMap_cons_none e] at q; exact q
    | some y => rw [List.filterMap_cons_some e] at q; exact q
/-- where each turn keeps I and gives something so that P -/
theorem ok_mapP {f : PV → M (Option PV)} {P : PV → PV → Prop} (I : Nat → S → Prop) {xs : List PV} {k : Nat} (h0 : I k s) (h : ∀ x ∈ xs, ∀ k s, I k s → Ok (f x) s (fun o s' => ∃ y, o = some y ∧ P x y ∧ I (k + 1) s'))
    (q : ∀ ys s', ys.length = xs.length → (∀ p ∈ xs.zip ys, P p.1 p.2) → I (k + xs.length) s' → Qs ys s') : Ok (mapMx f xs) s Qs := by
  induction xs generalizing Qs s k with
  | nil => exact q [] s rfl (fun _ h => nomatch h) h0
  | cons x xs ih =>
    unfold mapMx
    rw [ok_bind]
    refine (h x List.mem_cons_self k s h0).mono fun o s' ⟨y, e, p, i⟩ => ?_
    subst e
    rw [ok_bind]
    refine ih i (fun y hy => h y (List.mem_cons_of_mem _ hy)) fun ys s'' hl hp hi => ?_
    refine q (y :: ys) s'' (by rw [List.length_cons, hl, List.length_cons]) (fun p' hp' => ?_) (by rw [List.length_cons, show k + (xs.length + 1) = k + 1 + xs.length by omega]; exact hi)
    rw [List.zip_cons_cons, List.mem_cons] at hp'
    rcases hp' with rfl | hp'
    · exact p
    · exact hp p' hp'
/-! ### statements -/
@[simp] theorem c_nil : Ok (exCs Γ n .nil env) s Qc = Qc (.next, env) s := rfl
/-- behind a statement -/
def nxt (Γ : Gam) (n : Nat) (ss : Cmds) (Qc : Fl × Envi → S → Prop) : Fl × Envi → S → Prop := fun r s' => match r.1 with
  | .next => Ok (exCs Γ n ss r.2) s' Qc
  | .ret x f => Qc (.ret x f, r.2) s'
@[simp] theorem c_cons {c : Cmd} {ss : Cmds} : Ok (exCs Γ n (.cons c ss) env) s Qc = Ok (exC Γ n c env) s (nxt Γ n ss Qc) := by
  rw [show exCs Γ n (.cons c ss) env = M.bind (exC Γ n c env) fun r => match r.1 with | .next => exCs Γ n ss r.2 | .ret x f => M.ret (.ret x f, r.2) from rfl, ok_bind]
  congr; funext r s'
  obtain ⟨f, e⟩ := r
  cases f <;> rfl
@[simp] theorem nxt_next {ss : Cmds} {e : Envi} : nxt Γ n ss Qc (.next, e) s = Ok (exCs Γ n ss e) s Qc := rfl
@[simp] theorem nxt_ret {ss : Cmds} {e : Envi} {x : PV} {f : Bool} : nxt Γ n ss Qc (.ret x f, e) s = Qc (.ret x f, e) s := rfl
@[simp] theorem c_asgN {i : Nat} {e : Ex} : Ok (exC Γ n (.asg (.name i) e) env) s Qc = Ok (evE Γ false e env) s (fun r s' => Qc (.next, env.set i (some r)) s') := by
  rw [show exC Γ n (.asg (.name i) e) env = M.bind (evE Γ false e env) fun r => M.ret (Fl.next, env.set i (some r)) from rfl]; simp only [ok_bind, ok_ret]
@[simp] theorem c_asgT {ts : Tgs} {e : Ex} : Ok (exC Γ n (.asg (.tup ts) e) env) s Qc = Ok (evE Γ false e env) s (fun r s' => Ok (ofO (asgT (.tup ts) r.1 env)) s' (fun env' s' => Qc (.next, env') s')) := by
  rw [show exC Γ n (.asg (.tup ts) e) env = M.bind (evE Γ false e env) fun r => M.bind (ofO (asgT (.tup ts) r.1 env)) fun env' => M.ret (Fl.next, env') from rfl]; simp only [ok_bind, ok_ret]
@[simp] theorem c_asgz {i : Nat} {e : Ex} : Ok (exC Γ n (.asgz i e) env) s Qc = Ok (evE Γ false e env) s (fun r s' => Qc (.next, env.set i (some (r.1, false))) s') := by
  rw [show exC Γ n (.asgz i e) env = M.bind (evE Γ false e env) fun r => M.ret (Fl.next, env.set i (some (r.1, false))) from rfl]; simp only [ok_bind, ok_ret]
@[simp] theorem c_frz {is : List Nat} : Ok (exC Γ n (.frz is) env) s Qc = Qc (.next, frzAt is env) s := rfl
theorem c_pop0 {i : Nat} {ix : Ex} {t : Tg} : Ok (exC Γ n (.pop (some t) i (some ix)) env) s Qc = Ok (popM Γ i (some ix) env) s (fun r s' => Ok (ofO (asgT t r.1 r.2)) s' (fun env' s' => Qc (.next, env') s')) := by
  rw [show exC Γ n (.pop (some t) i (some ix)) env = M.bind (popM Γ i (some ix) env) fun r => M.bind (ofO (asgT t r.1 r.2)) fun env' => M.ret (Fl.next, env') from rfl]; simp only [ok_bind, ok_ret]
theorem o_popM {i : Nat} {ix : Ex} {xs : List PV} {Qp : PV × Envi → S → Prop} (h : env[i]? = some (some (.lst xs, true))) (hl : xs.length ≤ lim)
    (q : Ok (evE Γ true ix env) s (fun y s' => ∃ k j v, y.1 = .int k ∧ ixN xs.length k = some j ∧ xs[j]? = some v ∧ Qp (v, env.set i (some (.lst (xs.eraseIdx j), true))) s')) : Ok (popM Γ i (some ix) env) s Qp := by
  have h2 : ownL env i = some xs := by unfold ownL; rw [h]
  unfold popM
  rw [h2, ok_bind, ok_some, if_pos hl, ok_bind, ok_bind]
  unfold evalB
  rw [ok_fst]
  refine q.mono fun y s' ⟨k, j, v, e1, e2, e3, q⟩ => ?_
  rw [e1]
  show Ok (ofO (ixN xs.length k)) s' _
  rw [e2, ok_some, ok_bind, e3, ok_some, ok_ret]
  exact q
theorem c_apppop {j i : Nat} {ix : Ex} {xs zs : List PV} (h : env[i]? = some (some (.lst xs, true))) (hz : env[j]? = some (some (.lst zs, true))) (hj : j ≠ i) (hl : xs.length ≤ lim) (hl2 : zs.length < lim)
    (q : Ok (evE Γ true ix env) s (fun y s' => ∃ k m v, y.1 = .int k ∧ ixN xs.length k = some m ∧ xs[m]? = some v ∧ Qc (.next, (env.set i (some (.lst (xs.eraseIdx m), true))).set j (some (.lst (zs ++ [v]), true))) s')) : Ok (exC Γ n (.apppop j i ix) env) s Qc := by
  have h2 : ownL env j = some zs := by unfold ownL; rw [hz]
  rw [show exC Γ n (.apppop j i ix) env = M.bind (ofO (ownL env j)) fun zs => if j = i then M.stuck else M.bind (popM Γ i (some ix) env) fun r =>
      if zs.length < lim then M.ret (Fl.next, r.2.set j (some (.lst (zs ++ [r.1]), true))) else M.stuck from rfl]
  rw [h2, ok_bind, ok_some, if_neg hj, ok_bind]
  refine o_popM h hl (q.mono fun y s' ⟨k, m, v, e1, e2, e3, q⟩ => ⟨k, m, v, e1, e2, e3, ?_⟩)
  rw [if_pos hl2]
  exact q
@[simp] theorem c_whl {c : Ex} {body : Cmds} : Ok (exC Γ n (.whl c body) env) s Qc = Ok (whileN (fun env => M.bind (evalB Γ c env) fun x => ofO (asBool x)) (exCs Γ n body) n env) s Qc := rfl
@[simp] theorem c_ext {i : Nat} {e : Ex} {xs : List PV} (h : ownL env i = some xs) : Ok (exC Γ n (.ext i e) env) s Qc = Ok (evE Γ true e env) s (fun y s' => Ok (ofO (match y.1 with
      | .lst ys => if xs.length + ys.length ≤ lim then some (Fl.next, env.set i (some (.lst (xs ++ ys), true))) else none
      | _ => none)) s' Qc) := by
  rw [show exC Γ n (.ext i e) env = M.bind (ofO (ownL env i)) fun xs => M.bind (evalB Γ e env) fun y => ofO (match y with
      | .lst ys => if xs.length + ys.length ≤ lim then some (Fl.next, env.set i (some (.lst (xs ++ ys), true))) else none
      | _ => none) from rfl, h, ok_bind, ok_some, ok_bind]
  unfold evalB
  rw [ok_fst]
@[simp] theorem c_par {is : List Nat} {es : Exs} : Ok (exC Γ n (.par is es) env) s Qc = Ok (evalR Γ es env) s (fun rs s' => Ok (ofO (putRs is rs env)) s' (fun env' s' => Qc (.next, env') s')) := by
  rw [show exC Γ n (.par is es) env = M.bind (evalR Γ es env) fun rs => M.bind (ofO (putRs is rs env)) fun env' => M.ret (Fl.next, env') from rfl]; simp only [ok_bind, ok_ret]
@[simp] theorem o_rN {Qr : List (PV × Bool) → S → Prop} : Ok (evalR Γ .nil env) s Qr = Qr [] s := rfl
@[simp] theorem o_rC {e : Ex} {es : Exs} {Qr : List (PV × Bool) → S → Prop} : Ok (evalR Γ (.cons e es) env) s Qr = Ok (evE Γ false e env) s (fun r s' => Ok (evalR Γ es env) s' (fun xs s' => Qr (r :: xs) s')) := by
  rw [show evalR Γ (.cons e es) env = M.bind (evE Γ false e env) fun r => M.bind (evalR Γ es env) fun rs => M.ret (r :: rs) from rfl]; simp only [ok_bind, ok_ret]
@[simp] theorem c_ifs {c : Ex} {a b : Cmds} : Ok (exC Γ n (.ifs c a b) env) s Qc = Ok (evE Γ true c env) s (fun x s' => Ok (ofO (asBool x.1)) s' fun t s' => if t = true then Ok (exCs Γ n a env) s' Qc else Ok (exCs Γ n b env) s' Qc) := by
  rw [show exC Γ n (.ifs c a b) env = M.bind (evalB Γ c env) fun x => M.bind (ofO (asBool x)) fun t => if t then exCs Γ n a env else exCs Γ n b env from rfl]
  simp only [ok_bind, evalB, ok_fst]; congr; funext x s'; congr; funext t s''; cases t <;> rfl
@[simp] theorem c_retV {i : Nat} : Ok (exC Γ n (.ret (.var i)) env) s Qc = Ok (ofO (match env[i]? with | some (some r) => some r | _ => none)) s (fun r s' => Qc (.ret r.1 r.2, env) s') := by
  rw [show exC Γ n (.ret (.var i)) env = M.bind (ofO (match env[i]? with | some (some r) => some r | _ => none)) fun r => M.ret (Fl.ret r.1 r.2, env) from rfl]; simp only [ok_bind, ok_ret]
theorem c_ret {e : Ex} (h : ∀ i, e ≠ .var i) : Ok (exC Γ n (.ret e) env) s Qc = Ok (evE Γ false e (freezeAll env)) s (fun r s' => Qc (.ret r.1 r.2, env) s') := by
  have : exC Γ n (.ret e) env = M.bind (evE Γ false e (freezeAll env)) fun r => M.ret (Fl.ret r.1 r.2, env) := by
    cases e <;> first | exact absurd rfl (h _) | rfl
  rw [this]; simp only [ok_bind, ok_ret]
@[simp] theorem c_fors {t : Tg} {it : Src} {body : Cmds} : Ok (exC Γ n (.fors t it body) env) s Qc = Ok (evalIt Γ it (freezeIt it env)) s (fun xs s' => Ok (forN t (exCs Γ n body) xs (freezeIt it env)) s' Qc) := by
  rw [show exC Γ n (.fors t it body) env = M.bind (evalIt Γ it (freezeIt it env)) fun xs => forN t (exCs Γ n body) xs (freezeIt it env) from rfl]; simp only [ok_bind]
@[simp] theorem c_expr {e : Ex} : Ok (exC Γ n (.expr e) env) s Qc = Ok (evE Γ false e env) s (fun _ s' => Qc (.next, env) s') := by
  rw [show exC Γ n (.expr e) env = M.bind (evE Γ false e env) fun _ => M.ret (Fl.next, env) from rfl]; simp only [ok_bind, ok_ret]
@[simp] theorem c_pass : Ok (exC Γ n .pass env) s Qc = Qc (.next, env) s := rfl
/-- a for: I by the turn -/
theorem ok_for {t : Tg} {b : Envi → M (Fl × Envi)} (I : Nat → Envi → S → Prop) {xs : List PV} {k : Nat} (h0 : I k env s)
    (h : ∀ x ∈ xs, ∀ k env s, I k env s → Ok (ofO (asgT t x env)) s (fun env' s' => Ok (b env') s' (fun r s' => match r.1 with | .next => I (k + 1) r.2 s' | .ret x f => Qc (.ret x f, r.2) s'))) (q : ∀ env s', I (k + xs.length) env s' → Qc (.next, env) s') :
    Ok (forN t b xs env) s Qc := by
  induction xs generalizing env s k with
  | nil => exact q env s h0
  | cons x xs ih =>
    unfold forN
    rw [ok_bind]
    refine (h x List.mem_cons_self k env s h0).mono fun env' s' hb => ?_
    rw [ok_bind]
    refine hb.mono fun r s'' hr => ?_
    obtain ⟨f, e⟩ := r
    cases f with
    | next => exact ih hr (fun y hy => h y (List.mem_cons_of_mem _ hy)) fun e s' hi => q e s' (by rw [List.length_cons, show k + (xs.length + 1) = k + 1 + xs.length by omega]; exact hi)
    | ret x f => exact hr
end
@[simp] theorem drp_self {x : PV} {s : S} : drp s.ob.length x s = s := by
  unfold drp
  split
  · rw [List.take_length]
  · rfl
theorem drp_id {n : Nat} {x : PV} {s : S} (h : s.ob.length = n) : drp n x s = s := by subst h; exact drp_self
theorem drp_le {n : Nat} {x : PV} {s : S} (h : s.ob.length ≤ n) : drp n x s = s := by
  unfold drp
  split
  · rw [List.take_of_length_le h]
  · rfl
/-- a while: I, a measure that falls -/
theorem ok_while {c : Envi → M Bool} {b : Envi → M (Fl × Envi)} {Qc : Fl × Envi → S → Prop} (I : Nat → Envi → S → Prop) {n m : Nat} {env : Envi} {s : S} (h0 : I m env s) (hm : m < n)
    (h : ∀ m env s, I m env s → Ok (c env) s (fun t s' => if t = true then Ok (b env) s' (fun r s' => match r.1 with | .next => ∃ m', m' < m ∧ I m' r.2 s' | .ret x f => Qc (.ret x f, r.2) s') else Qc (.next, env) s')) :
    Ok (whileN c b n env) s Qc := by
  induction n generalizing m env s with
  | zero => exact absurd hm (Nat.not_lt_zero _)
  | succ n ih =>
    unfold whileN
    rw [ok_bind]
    refine (h m env s h0).mono fun t s' q => ?_
    cases t with
    | false => rw [if_neg Bool.false_ne_true] at q ⊢; exact q
    | true =>
      rw [if_pos rfl] at q ⊢
      rw [ok_bind]
      refine q.mono fun r s'' q => ?_
      obtain ⟨f, e⟩ := r
      cases f with
      | next =>
        obtain ⟨m', h1, h2⟩ := q
        exact ih h2 (by omega)
      | ret x f => exact q
/-- a def's call -/
theorem ok_run {Γ : Gam} {n : Nat} {D : Dfn} {args : List PV} {s : S} {Q : PV × Bool → S → Prop} (hl : args.length = D.ps)
    (h : Ok (exCs Γ n D.body (args.map (fun x => some (x, false)) ++ List.replicate (D.ns - D.ps) none)) s (fun r s' => match r.1 with | .ret x f => Q (x, f) (drp s.ob.length x s') | .next => Q (.non, false) (drp s.ob.length .non s'))) : Ok (run Γ n D args) s Q := by
  unfold run
  rw [if_pos hl]
  unfold Ok wpM dropM
  have h2 : Ok (M.bind (exCs Γ n D.body (args.map (fun x => some (x, false)) ++ List.replicate (D.ns - D.ps) none)) fun r => match r.1 with
      | .ret x f => M.ret (x, f)
      | .next => M.ret (.non, false)) s (fun r s' => Q r (drp s.ob.length r.1 s')) := by
    rw [ok_bind]
    refine h.mono fun r s' q => ?_
    obtain ⟨f, e⟩ := r
    cases f <;> exact q
  unfold Ok wpM at h2
  generalize M.bind (exCs Γ n D.body (args.map (fun x => some (x, false)) ++ List.replicate (D.ns - D.ps) none)) (fun r => match r.1 with
      | .ret x f => M.ret (x, f)
      | .next => M.ret (.non, false)) s = z at h2 ⊢
  cases z with
  | stuck => exact h2.elim
  | ok r s' => exact h2
  | exc k s' => exact h2.elim
/-- a def's call that keeps the number of objects -/
theorem ok_runk {Γ : Gam} {n : Nat} {D : Dfn} {args : List PV} {s : S} {Q : PV × Bool → S → Prop} (hl : args.length = D.ps)
    (h : Ok (exCs Γ n D.body (args.map (fun x => some (x, false)) ++ List.replicate (D.ns - D.ps) none)) s (fun r s' => s'.ob.length = s.ob.length ∧ match r.1 with | .ret x f => Q (x, f) s' | .next => Q (.non, false) s')) : Ok (run Γ n D args) s Q := by
  refine ok_run hl (h.mono fun r s' ⟨e, q⟩ => ?_)
  cases hr : r.1 with
  | next => rw [hr] at q; simp only; rw [drp_id e]; exact q
  | ret x f => rw [hr] at q; simp only; rw [drp_id e]; exact q
/-- at most b draws so far; the objects -/
def cle (o : List OV) (b : Nat) (s : S) : Prop := s.ob = o ∧ ∃ k, s.cnt = some k ∧ k ≤ b
/-! ### operators on shapes -/
@[simp] theorem asBool_bl {b : Bool} : asBool (.bl b) = some b := rfl
@[simp] theorem len_tup {xs : List PV} : bltop .len [.tup xs] = some (.int xs.length, false) := rfl
@[simp] theorem len_lst {xs : List PV} : bltop .len [.lst xs] = some (.int xs.length, false) := rfl
@[simp] theorem len_scr {xs : List Int} : bltop .len [.scr xs] = some (.int xs.length, false) := rfl
@[simp] theorem tuple_tup {xs : List PV} : bltop .tuple [.tup xs] = some (.tup xs, false) := rfl
@[simp] theorem tuple_lst {xs : List PV} : bltop .tuple [.lst xs] = some (.tup xs, false) := rfl
@[simp] theorem list_tup {xs : List PV} : bltop .list [.tup xs] = some (.lst xs, true) := rfl
@[simp] theorem list_lst {xs : List PV} : bltop .list [.lst xs] = some (.lst xs, true) := rfl
@[simp] theorem max_two {i j : Int} : bltop .max [.int i, .int j] = some (.int (if j > i then j else i), false) := rfl
@[simp] theorem min_two {i j : Int} : bltop .min [.int i, .int j] = some (.int (if j < i then j else i), false) := rfl
theorem sum_tup {xs : List PV} {is : List Int} (h : intsOf xs = some is) : bltop .sum [.tup xs] = some (.int is.sum, false) := by
  show (match intsOf xs with | some is => some (PV.int is.sum, false) | none => none) = _
  rw [h]
theorem sum_lst {xs : List PV} {is : List Int} (h : intsOf xs = some is) : bltop .sum [.lst xs] = some (.int is.sum, false) := by
  show (match intsOf xs with | some is => some (PV.int is.sum, false) | none => none) = _
  rw [h]
theorem bools_map {α : Type} {xs : List α} {f : α → Bool} : bools (xs.map fun x => .bl (f x)) = some (xs.map f) := by
  induction xs with
  | nil => rfl
  | cons x xs ih =>
    show (match bools (xs.map fun x => .bl (f x)) with | some is => some (f x :: is) | none => none) = _
    rw [ih]; rfl
@[simp] theorem all_map {α : Type} {xs : List α} {f : α → Bool} : bltop .all [.lst (xs.map fun x => .bl (f x))] = some (.bl (xs.all f), false) := by
  show (match bools (xs.map fun x => .bl (f x)) with | some bs => some (PV.bl (bs.all id), false) | none => none) = _
  rw [bools_map]
  simp [List.all_map]
@[simp] theorem any_map {α : Type} {xs : List α} {f : α → Bool} : bltop .any [.lst (xs.map fun x => .bl (f x))] = some (.bl (xs.any f), false) := by
  show (match bools (xs.map fun x => .bl (f x)) with | some bs => some (PV.bl (bs.any id), false) | none => none) = _
  rw [bools_map]
  simp [List.any_map]
theorem intsOf_map {α : Type} {xs : List α} {f : α → Int} : intsOf (xs.map fun x => .int (f x)) = some (xs.map f) := by
  induction xs with
  | nil => rfl
  | cons x xs ih =>
    show (match intsOf (xs.map fun x => .int (f x)) with | some is => some (f x :: is) | none => none) = _
    rw [ih]; rfl
@[simp] theorem seqOf_tup {xs : List PV} : seqOf (.tup xs) = some xs := rfl
@[simp] theorem seqOf_lst {xs : List PV} : seqOf (.lst xs) = some xs := rfl
@[simp] theorem eq_int {i j : Int} : (PV.int i).eq? (.int j) = some (decide (i = j)) := by
  unfold PV.eq?
  show (if SeqAt.shaped (.int i) && SeqAt.shaped (.int j) then some (PyData.eqv (.int i) (.int j)) else none) = _
  rfl
@[simp] theorem cmp_eqI {i j : Int} : cmpop .eq (.int i) (.int j) = some (decide (i = j)) := eq_int
@[simp] theorem cmp_neI {i j : Int} : cmpop .ne (.int i) (.int j) = some (!decide (i = j)) := by
  rw [show cmpop .ne (.int i) (.int j) = onot ((PV.int i).eq? (.int j)) from rfl, eq_int]; rfl
@[simp] theorem cmp_ltI {i j : Int} : cmpop .lt (.int i) (.int j) = some (decide (i < j)) := rfl
@[simp] theorem cmp_leI {i j : Int} : cmpop .le (.int i) (.int j) = some (decide (i ≤ j)) := rfl
@[simp] theorem cmp_gtI {i j : Int} : cmpop .gt (.int i) (.int j) = some (decide (j < i)) := rfl
@[simp] theorem cmp_geI {i j : Int} : cmpop .ge (.int i) (.int j) = some (decide (j ≤ i)) := rfl
@[simp] theorem bin_addI {i j : Int} : binop .add (.int i) (.int j) = some (.int (i + j), false) := rfl
@[simp] theorem bin_subI {i j : Int} : binop .sub (.int i) (.int j) = some (.int (i - j), false) := rfl
theorem bin_mulI {i j : Int} (h : j.natAbs < 18446744073709551616) : binop .mul (.int i) (.int j) = some (.int (i * j), false) := by
  show (if mulOk i j then _ else _) = _
  rw [if_pos (by unfold mulOk; simp [h])]
theorem bin_mulI' {i j : Int} (h : i.natAbs < 18446744073709551616) : binop .mul (.int i) (.int j) = some (.int (i * j), false) := by
  show (if mulOk i j then _ else _) = _
  rw [if_pos (by unfold mulOk; simp [h])]
theorem bin_modI {i j : Int} (h : 0 < j) : binop .mod (.int i) (.int j) = some (.int (i % j), false) := if_pos h
theorem big64 : 18446744073709551616 ≤ big := show 2 ^ 64 ≤ 2 ^ 8000 from Nat.pow_le_pow_right (by decide) (by decide)
theorem bin_divB {i j : Int} (h : 0 < j) (h2 : j.natAbs < big) : binop .fdiv (.int i) (.int j) = some (.int (i / j), false) := if_pos ⟨h, h2⟩
theorem bin_divI {i j : Int} (h : 0 < j) (h2 : j < 18446744073709551616) : binop .fdiv (.int i) (.int j) = some (.int (i / j), false) := bin_divB h (by have := big64; omega)
theorem bin_mulB {i j : Int} (h : i.natAbs < big) (h2 : j.natAbs < big) : binop .mul (.int i) (.int j) = some (.int (i * j), false) := by
  show (if mulOk i j then _ else _) = _
  rw [if_pos (by unfold mulOk; simp [h, h2])]
theorem bin_powI {i j : Int} (h : 0 ≤ j) (h1 : j ≤ 1000) (h2 : i.natAbs < 18446744073709551616) : binop .pow (.int i) (.int j) = some (.int (i ^ j.toNat), false) := if_pos ⟨h, h1, h2⟩
@[simp] theorem idx_tup {xs : List PV} {i : Int} : idxop (.tup xs) (.int i) = at? xs i := rfl
@[simp] theorem idx_lst {xs : List PV} {i : Int} : idxop (.lst xs) (.int i) = at? xs i := rfl
theorem at_nat {α : Type} {xs : List α} {i : Nat} (h : i < xs.length) : at? xs (i : Int) = some xs[i] := by
  unfold at? ixN
  rw [if_pos (by omega), if_pos (by omega)]
  simp [h]
theorem idx_scr {xs : List Int} {i : Nat} (h : i < xs.length) : idxop (.scr xs) (.int i) = some (.int xs[i]) := by
  show (match at? xs (i : Int) with | some k => some (PV.int k) | none => none) = _
  rw [at_nat h]
theorem fm_some {α β : Type} {xs : List α} {f : α → β} : xs.filterMap (fun x => some (f x)) = xs.map f := by
  rw [← List.filterMap_eq_map]; rfl
end GB

namespace LW
section
open PySem PySem.Spec PyProof.Rows L2 GB
def D_is_integer : Dfn := { ps := 3, ns := 3, body := (.cons (.ret (.and (.cons (.isi (.var 0) .int) (.cons (.not (.isi (.var 0) .bool)) (.cons (.cmp2 .le .le (.var 1) (.var 0) (.var 2)) .nil))))) .nil) }
def D_rises : Dfn := { ps := 1, ns := 3, body := (.cons (.ret (.blt .all (.cons (.comp (.cmp .lt (.var 1) (.var 2)) (.tup (.cons (.name 1) (.cons (.name 2) .nil))) (.zip2 (.var 0) (.sli (.var 0) (.int 1) .omit)) .nil) .nil))) .nil) }
def D_are_numbers : Dfn := { ps := 4, ns := 5, body := (.cons (.ret (.and (.cons (.isi (.var 0) .tuple) (.cons (.cmp .eq (.blt .len (.cons (.var 0) .nil)) (.var 1)) (.cons (.blt .all (.cons (.comp (.call 0 (.cons (.var 4) (.cons (.var 2) (.cons (.var 3) .nil)))) (.name 4) (.val (.var 0)) .nil) .nil)) .nil))))) .nil) }
def D_is_exchange : Dfn := { ps := 2, ns := 2, body := (.cons (.ifs (.or (.cons (.not (.isi (.var 1) .tuple)) (.cons (.cmp .ne (.blt .len (.cons (.var 1) .nil)) (.int 2)) (.cons (.not (.call 1 (.cons (.idx (.var 1) (.int 0)) (.cons (.var 0) (.cons (.int 0) (.cons (.int 5) .nil)))))) .nil)))) (.cons (.ret (.bl false)) .nil) .nil) (.cons (.ret (.and (.cons (.call 1 (.cons (.idx (.var 1) (.int 1)) (.cons (.var 0) (.cons (.int 0) (.cons (.int 5) .nil))))) (.cons (.cmp .gt (.blt .sum (.cons (.idx (.var 1) (.int 0)) .nil)) (.int 0)) .nil)))) .nil)) }
def D_stands : Dfn := { ps := 1, ns := 2, body := (.cons (.ifs (.or (.cons (.not (.isi (.var 0) .tuple)) (.cons (.cmp .ne (.blt .len (.cons (.var 0) .nil)) (.int 2)) (.cons (.not (.call 0 (.cons (.idx (.var 0) (.int 0)) (.cons (.int 2) (.cons (.int 4) .nil))))) .nil)))) (.cons (.ret (.bl false)) .nil) .nil) (.cons (.ifs (.or (.cons (.not (.isi (.idx (.var 0) (.int 1)) .tuple)) (.cons (.cmp .gt (.blt .len (.cons (.idx (.var 0) (.int 1)) .nil)) (.int 6)) .nil))) (.cons (.ret (.bl false)) .nil) .nil) (.cons (.ret (.blt .all (.cons (.comp (.call 2 (.cons (.idx (.var 0) (.int 0)) (.cons (.var 1) .nil))) (.name 1) (.val (.idx (.var 0) (.int 1))) .nil) .nil))) .nil))) }
def D_need_board : Dfn := { ps := 1, ns := 1, body := (.cons (.ifs (.not (.call 3 (.cons (.var 0) .nil))) (.cons (.raise 0) .nil) .nil) .nil) }
def D_net_of : Dfn := { ps := 1, ns := 3, body := (.cons (.ret (.blt .tuple (.cons (.comp (.bin .sub (.var 2) (.var 1)) (.tup (.cons (.name 1) (.cons (.name 2) .nil))) (.zip2 (.idx (.var 0) (.int 0)) (.idx (.var 0) (.int 1))) .nil) .nil))) .nil) }
def D_all_nets : Dfn := { ps := 1, ns := 2, body := (.cons (.ret (.comp (.call 14 (.cons (.var 1) .nil)) (.name 1) (.val (.idx (.var 0) (.int 1))) .nil)) .nil) }
def D_are_counts : Dfn := { ps := 2, ns := 2, body := (.cons (.ret (.call 1 (.cons (.var 1) (.cons (.blt .len (.cons (.idx (.var 0) (.int 1)) .nil)) (.cons (.int 0) (.cons (.bin .pow (.int 10) (.int 12)) .nil)))))) .nil) }
def D_net_sum : Dfn := { ps := 3, ns := 7, body := (.cons (.asg (.name 3) (.bin .mul (.lst (.cons (.int 0) .nil)) (.var 2))) (.cons (.fors (.tup (.cons (.name 4) (.cons (.name 5) .nil))) (.zip2 (.var 0) (.var 1)) (.cons (.fors (.name 6) (.range1 (.var 2)) (.cons (.augi 3 .add (.var 6) (.bin .mul (.idx (.var 4) (.var 6)) (.var 5))) .nil)) .nil)) (.cons (.ret (.var 3)) .nil))) }
def D_shows_gain : Dfn := { ps := 3, ns := 7, body := (.cons (.ifs (.blt .any (.cons (.comp (.and (.cons (.cmp .gt (.var 6) (.int 0)) (.cons (.cmp .is (.var 5) .non) .nil))) (.tup (.cons (.name 5) (.cons (.name 6) .nil))) (.zip2 (.var 1) (.var 2)) .nil) .nil)) (.cons (.ret (.bl false)) .nil) .nil) (.cons (.asgz 3 (.comp (.ite (.cmp .is (.var 5) .non) (.bin .mul (.tup (.cons (.int 0) .nil)) (.var 0)) (.var 5)) (.name 5) (.val (.var 1)) .nil)) (.cons (.asgz 4 (.call 48 (.cons (.var 3) (.cons (.var 2) (.cons (.var 0) .nil))))) (.cons (.ret (.and (.cons (.cmp .ge (.blt .min (.cons (.var 4) .nil)) (.int 0)) (.cons (.cmp .gt (.blt .max (.cons (.var 4) .nil)) (.int 0)) .nil)))) .nil)))) }
def D_is_gain : Dfn := { ps := 2, ns := 2, body := (.cons (.expr (.call 13 (.cons (.var 0) .nil))) (.cons (.ret (.and (.cons (.call 25 (.cons (.var 0) (.cons (.var 1) .nil))) (.cons (.call 53 (.cons (.idx (.var 0) (.int 0)) (.cons (.call 15 (.cons (.var 0) .nil)) (.cons (.var 1) .nil)))) .nil)))) .nil)) }
def D_is_act : Dfn := { ps := 2, ns := 2, body := (.cons (.ifs (.or (.cons (.not (.isi (.var 1) .tuple)) (.cons (.not (.cmp2 .le .le (.int 2) (.blt .len (.cons (.var 1) .nil)) (.int 4))) (.cons (.not (.isi (.idx (.var 1) (.int 0)) .str)) .nil)))) (.cons (.ret (.bl false)) .nil) .nil) (.cons (.ifs (.not (.call 0 (.cons (.idx (.var 1) (.int 1)) (.cons (.int 0) (.cons (.bin .sub (.blt .len (.cons (.idx (.var 0) (.int 1)) .nil)) (.int 1)) .nil))))) (.cons (.ret (.bl false)) .nil) .nil) (.cons (.ifs (.cmp .eq (.idx (.var 1) (.int 0)) (.str "bar")) (.cons (.ret (.cmp .eq (.blt .len (.cons (.var 1) .nil)) (.int 2))) .nil) .nil) (.cons (.ifs (.or (.cons (.cmp .ne (.idx (.var 1) (.int 0)) (.str "fee")) (.cons (.cmp .ne (.blt .len (.cons (.var 1) .nil)) (.int 4)) (.cons (.not (.call 0 (.cons (.idx (.var 1) (.int 2)) (.cons (.int 0) (.cons (.bin .sub (.idx (.var 0) (.int 0)) (.int 1)) .nil))))) .nil)))) (.cons (.ret (.bl false)) .nil) .nil) (.cons (.ret (.call 0 (.cons (.idx (.var 1) (.int 3)) (.cons (.int 1) (.cons (.idx (.idx (.idx (.idx (.var 0) (.int 1)) (.idx (.var 1) (.int 1))) (.int 1)) (.idx (.var 1) (.int 2))) .nil))))) .nil))))) }
def D_acts_stand : Dfn := { ps := 2, ns := 3, body := (.cons (.ifs (.or (.cons (.not (.isi (.var 1) .tuple)) (.cons (.cmp .gt (.blt .len (.cons (.var 1) .nil)) (.int 10)) (.cons (.not (.blt .all (.cons (.comp (.call 71 (.cons (.var 0) (.cons (.var 2) .nil))) (.name 2) (.val (.var 1)) .nil) .nil))) .nil)))) (.cons (.ret (.bl false)) .nil) .nil) (.cons (.ret (.call 70 (.cons (.var 1) .nil))) .nil)) }
def D_need_acts : Dfn := { ps := 2, ns := 2, body := (.cons (.expr (.call 13 (.cons (.var 0) .nil))) (.cons (.ifs (.not (.call 102 (.cons (.var 0) (.cons (.var 1) .nil)))) (.cons (.raise 6) .nil) .nil) .nil)) }
def D_under : Dfn := { ps := 2, ns := 7, body := (.cons (.asg (.name 2) (.lst .nil)) (.cons (.fors (.tup (.cons (.name 3) (.cons (.name 4) .nil))) (.enum (.idx (.var 0) (.int 1))) (.cons (.ifs (.cmp .isin (.tup (.cons (.str "bar") (.cons (.var 3) .nil))) (.var 1)) (.cons (.app 2 .non) .nil) (.cons (.asg (.name 5) (.blt .list (.cons (.idx (.var 4) (.int 1)) .nil))) (.cons (.fors (.name 6) (.val (.var 1)) (.cons (.ifs (.and (.cons (.cmp .eq (.idx (.var 6) (.int 0)) (.str "fee")) (.cons (.cmp .eq (.idx (.var 6) (.int 1)) (.var 3)) .nil))) (.cons (.seti 5 (.idx (.var 6) (.int 2)) (.blt .max (.cons (.int 0) (.cons (.bin .sub (.idx (.var 5) (.idx (.var 6) (.int 2))) (.idx (.var 6) (.int 3))) .nil)))) .nil) .nil) .nil)) (.cons (.app 2 (.call 14 (.cons (.tup (.cons (.idx (.var 4) (.int 0)) (.cons (.blt .tuple (.cons (.var 5) .nil)) .nil))) .nil))) .nil)))) .nil)) (.cons (.ret (.var 2)) .nil))) }
def D_is_gain_under : Dfn := { ps := 3, ns := 3, body := (.cons (.expr (.call 104 (.cons (.var 0) (.cons (.var 1) .nil)))) (.cons (.ret (.and (.cons (.call 25 (.cons (.var 0) (.cons (.var 2) .nil))) (.cons (.call 53 (.cons (.idx (.var 0) (.int 0)) (.cons (.call 72 (.cons (.var 0) (.cons (.var 1) .nil))) (.cons (.var 2) .nil)))) .nil)))) .nil)) }
def D__law_same_truth : Dfn := { ps := 2, ns := 2, body := (.cons (.ret (.and (.cons (.isi (.var 0) .bool) (.cons (.cmp .eq (.var 0) (.var 1)) .nil)))) .nil) }
def D__law_cell_at : Dfn := { ps := 2, ns := 4, body := (.cons (.ifs (.cmp .lt (.var 1) (.blt .len (.cons (.var 0) .nil))) (.cons (.ret (.idx (.var 0) (.var 1))) .nil) .nil) (.cons (.ifs (.cmp .eq (.var 0) (.lst .nil)) (.cons (.ret (.int 0)) .nil) .nil) (.cons (.asg (.name 2) (.idx (.var 0) (.bin .mod (.var 1) (.blt .len (.cons (.var 0) .nil))))) (.cons (.fors (.name 3) (.range1 (.blt .min (.cons (.bin .fdiv (.var 1) (.blt .len (.cons (.var 0) .nil))) (.cons (.int 60) .nil)))) (.cons (.asgz 2 (.bin .fdiv (.var 2) (.int 1000003))) .nil)) (.cons (.ret (.bin .add (.bin .add (.bin .mul (.idx (.var 0) (.bin .mod (.var 1) (.blt .len (.cons (.var 0) .nil)))) (.int 31)) (.var 1)) (.bin .mul (.var 2) (.int 101)))) .nil))))) }
def D__law_mixed : Dfn := { ps := 3, ns := 4, body := (.cons (.asgz 3 (.bin .mod (.bin .add (.bin .add (.bin .mul (.call 5 (.cons (.var 0) (.cons (.var 1) .nil))) (.int 1103515245)) (.bin .mul (.int 7919) (.var 1))) (.int 12345)) (.int 2147483647))) (.cons (.ret (.bin .mod (.bin .mod (.bin .mod (.bin .pow (.var 3) (.int 5)) (.int 2147483647)) (.int 999983)) (.var 2))) .nil)) }
def D__law_draw : Dfn := { ps := 3, ns := 3, body := (.cons (.app 1 (.int 0)) (.cons (.ret (.call 6 (.cons (.var 0) (.cons (.blt .len (.cons (.var 1) .nil)) (.cons (.var 2) .nil))))) .nil)) }
def D__law_pick : Dfn := { ps := 3, ns := 3, body := (.cons (.ret (.idx (.var 2) (.call 7 (.cons (.var 0) (.cons (.var 1) (.cons (.blt .len (.cons (.var 2) .nil)) .nil)))))) .nil) }
def D__law_nets : Dfn := { ps := 1, ns := 6, body := (.cons (.asg (.name 1) (.lst .nil)) (.cons (.fors (.tup (.cons (.name 2) (.cons (.name 3) .nil))) (.val (.idx (.var 0) (.int 1))) (.cons (.app 1 (.blt .tuple (.cons (.comp (.bin .sub (.var 5) (.var 4)) (.tup (.cons (.name 4) (.cons (.name 5) .nil))) (.zip2 (.var 2) (.var 3)) .nil) .nil))) .nil)) (.cons (.ret (.var 1)) .nil))) }
def D__law_sum : Dfn := { ps := 3, ns := 6, body := (.cons (.ret (.comp (.blt .sum (.cons (.comp (.bin .mul (.idx (.var 4) (.var 3)) (.var 5)) (.tup (.cons (.name 4) (.cons (.name 5) .nil))) (.zip2 (.var 1) (.var 2)) .nil) .nil)) (.name 3) (.range1 (.var 0)) .nil)) .nil) }
def D__law_shows : Dfn := { ps := 3, ns := 4, body := (.cons (.asgz 3 (.call 58 (.cons (.var 0) (.cons (.var 1) (.cons (.var 2) .nil))))) (.cons (.ret (.and (.cons (.cmp .ge (.blt .min (.cons (.var 3) .nil)) (.int 0)) (.cons (.cmp .gt (.blt .max (.cons (.var 3) .nil)) (.int 0)) .nil)))) .nil)) }
def D__law_some_of : Dfn := { ps := 4, ns := 6, body := (.cons (.par [4, 5] (.cons (.blt .list (.cons (.var 2) .nil)) (.cons (.lst .nil) .nil))) (.cons (.whl (.and (.cons (.cmp .ne (.var 4) (.lst .nil)) (.cons (.cmp .lt (.blt .len (.cons (.var 5) .nil)) (.var 3)) .nil))) (.cons (.apppop 5 4 (.call 7 (.cons (.var 0) (.cons (.var 1) (.cons (.blt .len (.cons (.var 4) .nil)) .nil))))) .nil)) (.cons (.ret (.blt .tuple (.cons (.blt .sorted (.cons (.var 5) .nil)) .nil))) .nil))) }
def D__law_all_acts : Dfn := { ps := 1, ns := 7, body := (.cons (.asg (.name 1) (.lst .nil)) (.cons (.fors (.tup (.cons (.name 2) (.cons (.name 3) .nil))) (.enum (.idx (.var 0) (.int 1))) (.cons (.app 1 (.tup (.cons (.str "bar") (.cons (.var 2) .nil)))) (.cons (.fors (.tup (.cons (.name 4) (.cons (.name 5) .nil))) (.enum (.idx (.var 3) (.int 1))) (.cons (.ext 1 (.comp (.tup (.cons (.str "fee") (.cons (.var 2) (.cons (.var 4) (.cons (.var 6) .nil))))) (.name 6) (.range2 (.int 1) (.bin .add (.var 5) (.int 1))) .nil)) .nil)) .nil))) (.cons (.ret (.blt .sorted (.cons (.var 1) .nil))) .nil))) }
def D__law_some_acts : Dfn := { ps := 4, ns := 5, body := (.cons (.asgz 4 (.call 62 (.cons (.var 2) .nil))) (.cons (.ret (.ite (.cmp .ne (.var 4) (.lst .nil)) (.call 61 (.cons (.var 0) (.cons (.var 1) (.cons (.var 4) (.cons (.call 7 (.cons (.var 0) (.cons (.var 1) (.cons (.bin .add (.var 3) (.int 1)) .nil)))) .nil))))) (.tup .nil))) .nil)) }
def D__law_under : Dfn := { ps := 2, ns := 11, body := (.cons (.par [2, 3] (.cons (.lst .nil) (.cons (.lst .nil) .nil))) (.cons (.fors (.tup (.cons (.name 4) (.cons (.name 5) .nil))) (.enum (.idx (.var 0) (.int 1))) (.cons (.ifs (.cmp .notin (.tup (.cons (.str "bar") (.cons (.var 4) .nil))) (.var 1)) (.cons (.asg (.name 6) (.lst .nil)) (.cons (.fors (.tup (.cons (.name 7) (.cons (.name 8) .nil))) (.enum (.idx (.var 5) (.int 1))) (.cons (.asg (.name 9) (.blt .sum (.cons (.comp (.idx (.var 10) (.int 3)) (.name 10) (.val (.var 1)) (.cons (.cmp .eq (.sli (.var 10) .omit (.int 3)) (.tup (.cons (.str "fee") (.cons (.var 4) (.cons (.var 7) .nil))))) .nil)) .nil))) (.cons (.app 6 (.blt .max (.cons (.int 0) (.cons (.bin .sub (.var 8) (.var 9)) .nil)))) .nil))) (.cons (.app 2 (.tup (.cons (.idx (.var 5) (.int 0)) (.cons (.blt .tuple (.cons (.var 6) .nil)) .nil)))) (.cons (.app 3 (.var 4)) .nil)))) .nil) .nil)) (.cons (.ret (.tup (.cons (.tup (.cons (.idx (.var 0) (.int 0)) (.cons (.blt .tuple (.cons (.var 2) .nil)) .nil))) (.cons (.var 3) .nil)))) .nil))) }
def D__law_some_numbers : Dfn := { ps := 4, ns := 5, body := (.cons (.ret (.blt .tuple (.cons (.comp (.blt .max (.cons (.int 0) (.cons (.bin .sub (.call 7 (.cons (.var 0) (.cons (.var 1) (.cons (.bin .add (.var 3) (.int 3)) .nil)))) (.int 2)) .nil))) (.name 4) (.range1 (.var 2)) .nil) .nil))) .nil) }
def D__law_some_exchange : Dfn := { ps := 3, ns := 5, body := (.cons (.asgz 3 (.call 9 (.cons (.var 0) (.cons (.var 1) (.cons (.var 2) (.cons (.int 3) .nil)))))) (.cons (.ifs (.cmp .eq (.blt .sum (.cons (.var 3) .nil)) (.int 0)) (.cons (.asgz 4 (.call 7 (.cons (.var 0) (.cons (.var 1) (.cons (.var 2) .nil))))) (.cons (.asgz 3 (.bin .add (.bin .add (.sli (.var 3) .omit (.var 4)) (.tup (.cons (.bin .add (.int 1) (.call 7 (.cons (.var 0) (.cons (.var 1) (.cons (.int 3) .nil))))) .nil))) (.sli (.var 3) (.bin .add (.var 4) (.int 1)) .omit))) .nil)) .nil) (.cons (.ret (.tup (.cons (.var 3) (.cons (.call 9 (.cons (.var 0) (.cons (.var 1) (.cons (.var 2) (.cons (.int 3) .nil))))) .nil)))) .nil))) }
def D__law_some_board : Dfn := { ps := 2, ns := 7, body := (.cons (.asgz 2 (.call 8 (.cons (.var 0) (.cons (.var 1) (.cons (.tup (.cons (.int 2) (.cons (.int 2) (.cons (.int 3) (.cons (.int 3) (.cons (.int 4) .nil)))))) .nil))))) (.cons (.asg (.name 3) (.comp (.call 10 (.cons (.var 0) (.cons (.var 1) (.cons (.var 2) .nil)))) (.name 6) (.range1 (.call 7 (.cons (.var 0) (.cons (.var 1) (.cons (.int 5) .nil))))) .nil)) (.cons (.fors (.tup (.cons (.name 4) (.cons (.name 5) .nil))) (.val (.sli (.blt .list (.cons (.var 3) .nil)) .omit (.int 2))) (.cons (.ifs (.and (.cons (.cmp .eq (.call 7 (.cons (.var 0) (.cons (.var 1) (.cons (.int 4) .nil)))) (.int 0)) (.cons (.cmp .gt (.blt .sum (.cons (.var 5) .nil)) (.int 0)) .nil))) (.cons (.app 3 (.tup (.cons (.var 5) (.cons (.var 4) .nil)))) .nil) .nil) .nil)) (.cons (.ret (.tup (.cons (.var 2) (.cons (.blt .tuple (.cons (.var 3) .nil)) .nil)))) .nil)))) }
def D__law_some_case : Dfn := { ps := 3, ns := 12, body := (.cons (.asgz 3 (.call 11 (.cons (.var 0) (.cons (.var 1) .nil)))) (.cons (.ifs (.cmp .gt (.call 7 (.cons (.var 0) (.cons (.var 1) (.cons (.int 3) .nil)))) (.int 0)) (.cons (.asgz 4 (.bin .add (.int 1) (.call 7 (.cons (.var 0) (.cons (.var 1) (.cons (.int 3) .nil)))))) (.cons (.asg (.name 5) (.tup (.cons (.tup (.cons (.tup (.cons (.var 4) (.cons (.int 0) .nil))) (.cons (.tup (.cons (.int 0) (.cons (.bin .add (.int 1) (.call 7 (.cons (.var 0) (.cons (.var 1) (.cons (.int 4) .nil))))) .nil))) .nil))) (.cons (.tup (.cons (.tup (.cons (.int 0) (.cons (.bin .add (.int 1) (.call 7 (.cons (.var 0) (.cons (.var 1) (.cons (.int 2) .nil))))) .nil))) (.cons (.tup (.cons (.var 4) (.cons (.int 0) .nil))) .nil))) .nil)))) (.cons (.asgz 6 (.bin .mul (.tup (.cons (.int 0) .nil)) (.bin .sub (.idx (.var 3) (.int 0)) (.int 2)))) (.cons (.asg (.name 5) (.blt .tuple (.cons (.comp (.tup (.cons (.bin .add (.var 10) (.var 6)) (.cons (.bin .add (.var 11) (.var 6)) .nil))) (.tup (.cons (.name 10) (.cons (.name 11) .nil))) (.val (.var 5)) .nil) .nil))) (.cons (.asg (.name 3) (.tup (.cons (.idx (.var 3) (.int 0)) (.cons (.sli (.bin .add (.idx (.var 3) (.int 1)) (.var 5)) .omit (.int 6)) .nil)))) .nil))))) .nil) (.cons (.par [7, 8] (.cons (.call 62 (.cons (.var 3) .nil)) (.cons (.tup .nil) .nil))) (.cons (.frz [7]) (.cons (.ifs (.cmp .ne (.var 7) (.lst .nil)) (.cons (.asgz 8 (.call 61 (.cons (.var 0) (.cons (.var 1) (.cons (.var 7) (.cons (.bin .sub (.var 2) (.call 7 (.cons (.var 0) (.cons (.var 1) (.cons (.int 2) .nil))))) .nil)))))) .nil) .nil) (.cons (.ret (.tup (.cons (.var 3) (.cons (.blt .tuple (.cons (.comp (.tup (.cons (.var 9) (.cons (.bin .add (.int 1) (.call 7 (.cons (.var 0) (.cons (.var 1) (.cons (.int 4) .nil))))) .nil))) (.name 9) (.val (.var 8)) .nil) .nil)) .nil)))) .nil)))))) }
def D_law : Dfn := { ps := 1, ns := 16, body := (.cons (.mkcnt 1) (.cons (.asg (.tup (.cons (.name 6) (.cons (.name 7) .nil))) (.call 63 (.cons (.var 0) (.cons (.var 1) (.cons (.int 3) .nil))))) (.cons (.asgz 2 (.call 81 (.cons (.var 0) (.cons (.var 1) (.cons (.var 6) (.cons (.int 3) .nil)))))) (.cons (.asg (.tup (.cons (.name 8) (.cons (.name 9) .nil))) (.call 106 (.cons (.var 6) (.cons (.var 2) .nil)))) (.cons (.asg (.name 3) (.blt .len (.cons (.idx (.var 6) (.int 1)) .nil))) (.cons (.fors (.name 4) (.range1 (.int 8)) (.cons (.asg (.name 10) (.blt .tuple (.cons (.comp (.call 7 (.cons (.var 0) (.cons (.var 1) (.cons (.call 8 (.cons (.var 0) (.cons (.var 1) (.cons (.tup (.cons (.int 2) (.cons (.int 4) (.cons (.int 30) .nil)))) .nil)))) .nil)))) (.name 14) (.range1 (.var 3)) .nil) .nil))) (.cons (.asgz 11 (.comp (.var 14) (.name 14) (.range1 (.var 3)) (.cons (.and (.cons (.cmp .gt (.idx (.var 10) (.var 14)) (.int 0)) (.cons (.cmp .notin (.var 14) (.var 9)) .nil))) .nil))) (.cons (.asgz 12 (.comp (.idx (.var 10) (.var 14)) (.name 14) (.val (.var 9)) .nil)) (.cons (.asg (.name 13) (.and (.cons (.cmp .eq (.var 11) (.lst .nil)) (.cons (.call 59 (.cons (.idx (.var 6) (.int 0)) (.cons (.call 17 (.cons (.var 8) .nil)) (.cons (.var 12) .nil)))) .nil)))) (.cons (.ifs (.not (.call 27 (.cons (.call 107 (.cons (.var 6) (.cons (.var 2) (.cons (.var 10) .nil)))) (.cons (.var 13) .nil)))) (.cons (.ret (.bl false)) .nil) .nil) (.cons (.ifs (.or (.cons (.cmp .ne (.call 107 (.cons (.var 6) (.cons (.tup .nil) (.cons (.var 10) .nil)))) (.call 54 (.cons (.var 6) (.cons (.var 10) .nil)))) (.cons (.and (.cons (.var 13) (.cons (.not (.call 54 (.cons (.var 6) (.cons (.var 10) .nil)))) .nil))) .nil))) (.cons (.ret (.bl false)) .nil) .nil) .nil))))))) (.cons (.asgz 5 (.lst (.cons .non (.cons (.bin .mul (.tup (.cons (.int 0) .nil)) (.var 3)) (.cons (.bin .mul (.tup (.cons (.int 1) .nil)) (.bin .add (.var 3) (.int 1))) (.cons (.bin .mul (.lst (.cons (.int 1) .nil)) (.var 3)) (.cons (.int 5) (.cons (.bin .mul (.tup (.cons (.bl true) .nil)) (.var 3)) .nil)))))))) (.cons (.ret (.not (.blt .any (.cons (.comp (.call 107 (.cons (.var 6) (.cons (.var 2) (.cons (.var 15) .nil)))) (.name 15) (.val (.var 5)) .nil) .nil)))) .nil)))))))) }
def I_is_integer : DefI := ⟨0, 5, "is_integer", D_is_integer, ["value", "low", "high"], ["value", "low", "high"], none, "is_integer"⟩
def I_rises : DefI := ⟨70, 6, "rises", D_rises, ["some", "one", "other"], ["some"], none, "rises"⟩
def I_are_numbers : DefI := ⟨1, 7, "are_numbers", D_are_numbers, ["value", "count", "low", "high", "one"], ["value", "count", "low", "high"], none, "are_numbers"⟩
def I_is_exchange : DefI := ⟨2, 8, "is_exchange", D_is_exchange, ["things", "value"], ["things", "value"], none, "is_exchange"⟩
def I_stands : DefI := ⟨3, 9, "stands", D_stands, ["value", "one"], ["value"], none, "stands"⟩
def I_need_board : DefI := ⟨13, 10, "need_board", D_need_board, ["board"], ["board"], none, "need_board"⟩
def I_net_of : DefI := ⟨14, 11, "net_of", D_net_of, ["exchange", "takes", "gives"], ["exchange"], none, "net_of"⟩
def I_all_nets : DefI := ⟨15, 12, "all_nets", D_all_nets, ["board", "one"], ["board"], none, "all_nets"⟩
def I_are_counts : DefI := ⟨25, 13, "are_counts", D_are_counts, ["board", "value"], ["board", "value"], none, "are_counts"⟩
def I_net_sum : DefI := ⟨48, 15, "net_sum", D_net_sum, ["some", "counts", "things", "found", "net", "count", "thing"], ["some", "counts", "things"], none, "net_sum"⟩
def I_shows_gain : DefI := ⟨53, 16, "shows_gain", D_shows_gain, ["things", "some", "counts", "made", "whole", "net", "count"], ["things", "some", "counts"], none, "shows_gain"⟩
def I_is_gain : DefI := ⟨54, 17, "is_gain", D_is_gain, ["board", "value"], ["board", "value"], none, "is_gain"⟩
def I_is_act : DefI := ⟨71, 19, "is_act", D_is_act, ["board", "value"], ["board", "value"], none, "is_act"⟩
def I_acts_stand : DefI := ⟨102, 20, "acts_stand", D_acts_stand, ["board", "value", "one"], ["board", "value"], none, "acts_stand"⟩
def I_need_acts : DefI := ⟨104, 21, "need_acts", D_need_acts, ["board", "acts"], ["board", "acts"], none, "need_acts"⟩
def I_under : DefI := ⟨72, 22, "under", D_under, ["board", "acts", "found", "number", "exchange", "gives", "act"], ["board", "acts"], none, "under"⟩
def I_is_gain_under : DefI := ⟨107, 23, "is_gain_under", D_is_gain_under, ["board", "acts", "value"], ["board", "acts", "value"], none, "is_gain_under"⟩
def I__law_same_truth : DefI := ⟨27, 25, "_law_same_truth", D__law_same_truth, ["_law_got", "_law_due"], ["_law_got", "_law_due"], none, "_law_same_truth"⟩
def I__law_cell_at : DefI := ⟨5, 26, "_law_cell_at", D__law_cell_at, ["_law_script", "_law_k", "_law_spare", "_law_again"], ["_law_script", "_law_k"], none, "_law_cell_at"⟩
def I__law_mixed : DefI := ⟨6, 27, "_law_mixed", D__law_mixed, ["_law_script", "_law_k", "_law_many", "_law_spun"], ["_law_script", "_law_k", "_law_many"], none, "_law_mixed"⟩
def I__law_draw : DefI := ⟨7, 28, "_law_draw", D__law_draw, ["_law_script", "_law_state", "_law_many"], ["_law_script", "_law_state", "_law_many"], none, "_law_draw"⟩
def I__law_pick : DefI := ⟨8, 29, "_law_pick", D__law_pick, ["_law_script", "_law_state", "_law_some"], ["_law_script", "_law_state", "_law_some"], none, "_law_pick"⟩
def I__law_nets : DefI := ⟨17, 30, "_law_nets", D__law_nets, ["_law_board", "_law_found", "_law_takes", "_law_gives", "_law_a", "_law_b"], ["_law_board"], none, "_law_nets"⟩
def I__law_sum : DefI := ⟨58, 31, "_law_sum", D__law_sum, ["_law_things", "_law_some", "_law_counts", "_law_thing", "_law_net", "_law_count"], ["_law_things", "_law_some", "_law_counts"], none, "_law_sum"⟩
def I__law_shows : DefI := ⟨59, 32, "_law_shows", D__law_shows, ["_law_things", "_law_some", "_law_counts", "_law_whole"], ["_law_things", "_law_some", "_law_counts"], none, "_law_shows"⟩
def I__law_some_of : DefI := ⟨61, 33, "_law_some_of", D__law_some_of, ["_law_script", "_law_state", "_law_some", "_law_count", "_law_left", "_law_found"], ["_law_script", "_law_state", "_law_some", "_law_count"], none, "_law_some_of"⟩
def I__law_all_acts : DefI := ⟨62, 34, "_law_all_acts", D__law_all_acts, ["_law_board", "_law_found", "_law_number", "_law_exchange", "_law_thing", "_law_count", "_law_amount"], ["_law_board"], none, "_law_all_acts"⟩
def I__law_some_acts : DefI := ⟨81, 35, "_law_some_acts", D__law_some_acts, ["_law_script", "_law_state", "_law_board", "_law_most", "_law_some"], ["_law_script", "_law_state", "_law_board", "_law_most"], none, "_law_some_acts"⟩
def I__law_under : DefI := ⟨106, 36, "_law_under", D__law_under, ["_law_board", "_law_acts", "_law_rows", "_law_kept", "_law_number", "_law_exchange", "_law_gives", "_law_thing", "_law_count", "_law_fees", "_law_act"], ["_law_board", "_law_acts"], none, "_law_under"⟩
def I__law_some_numbers : DefI := ⟨9, 37, "_law_some_numbers", D__law_some_numbers, ["_law_script", "_law_state", "_law_things", "_law_high", "_law_again"], ["_law_script", "_law_state", "_law_things", "_law_high"], none, "_law_some_numbers"⟩
def I__law_some_exchange : DefI := ⟨10, 38, "_law_some_exchange", D__law_some_exchange, ["_law_script", "_law_state", "_law_things", "_law_takes", "_law_at"], ["_law_script", "_law_state", "_law_things"], none, "_law_some_exchange"⟩
def I__law_some_board : DefI := ⟨11, 39, "_law_some_board", D__law_some_board, ["_law_script", "_law_state", "_law_things", "_law_exchanges", "_law_takes", "_law_gives", "_law_again"], ["_law_script", "_law_state"], none, "_law_some_board"⟩
def I__law_some_case : DefI := ⟨63, 40, "_law_some_case", D__law_some_case, ["_law_script", "_law_state", "_law_most", "_law_board", "_law_price", "_law_more", "_law_fill", "_law_some", "_law_acts", "_law_act", "_law_takes", "_law_gives"], ["_law_script", "_law_state", "_law_most"], none, "_law_some_case"⟩
def I_law : DefI := ⟨12, 41, "law", D_law, ["_law_script", "_law_state", "_law_acts", "_law_count", "_law_again", "_law_bad", "_law_board", "_law_offers", "_law_other", "_law_kept", "_law_counts", "_law_barred", "_law_some", "_law_due", "_law_number", "_law_one"], ["_law_script"], none, "law"⟩
def L : List DefI := [I_is_integer, I_rises, I_are_numbers, I_is_exchange, I_stands, I_need_board, I_net_of, I_all_nets, I_are_counts, I_net_sum, I_shows_gain, I_is_gain, I_is_act, I_acts_stand, I_need_acts, I_under, I_is_gain_under, I__law_same_truth, I__law_cell_at, I__law_mixed, I__law_draw, I__law_pick, I__law_nets, I__law_sum, I__law_shows, I__law_some_of, I__law_all_acts, I__law_some_acts, I__law_under, I__law_some_numbers, I__law_some_exchange, I__law_some_board, I__law_some_case, I_law]
def E : List (Nat × Str) := [(0, "InvalidBoard"), (6, "InvalidActs")]
def T : LT := ⟨L, E, [], []⟩
abbrev P : Program := PySem.Challenge.pw_gainboards_k23_whole_gains_under
theorem ok : T.L.all (defB P T) = true := by kernel_rfl
theorem exo : excB T.E = true := by kernel_rfl
theorem gbo : glbB T = true := by kernel_rfl
theorem bind : ∀ d ∈ T.L, ∀ (kV doc pm : Value) (an : Option Addr) (cdv ct : Value) (us : List Value), us.length = d.ps.length → bindArgs (PySem.W.fnOf d.x d.q (defArgs (stOf P d)) (defBody (stOf P d)) (defScope (stOf P d)) .none kV doc pm an cdv ct) ⟨us, []⟩ = pure (d.ps.zip us) :=
  List.forall_mem_cons.mpr ⟨fun kV doc pm an cdv ct us (hl : us.length = 3) => match us, hl with | [_, _, _], _ => rfl, List.forall_mem_cons.mpr ⟨fun kV doc pm an cdv ct us (hl : us.length = 1) => match us, hl with | [_], _ => rfl, List.forall_mem_cons.mpr ⟨fun kV doc pm an cdv ct us (hl : us.length = 4) => match us, hl with | [_, _, _, _], _ => rfl, List.forall_mem_cons.mpr ⟨fun kV doc pm an cdv ct us (hl : us.length = 2) => match us, hl with | [_, _], _ => rfl, List.forall_mem_cons.mpr ⟨fun kV doc pm an cdv ct us (hl : us.length = 1) => match us, hl with | [_], _ => rfl, List.forall_mem_cons.mpr ⟨fun kV doc pm an cdv ct us (hl : us.length = 1) => match us, hl with | [_], _ => rfl, List.forall_mem_cons.mpr ⟨fun kV doc pm an cdv ct us (hl : us.length = 1) => match us, hl with | [_], _ => rfl, List.forall_mem_cons.mpr ⟨fun kV doc pm an cdv ct us (hl : us.length = 1) => match us, hl with | [_], _ => rfl, List.forall_mem_cons.mpr ⟨fun kV doc pm an cdv ct us (hl : us.length = 2) => match us, hl with | [_, _], _ => rfl, List.forall_mem_cons.mpr ⟨fun kV doc pm an cdv ct us (hl : us.length = 3) => match us, hl with | [_, _, _], _ => rfl, List.forall_mem_cons.mpr ⟨fun kV doc pm an cdv ct us (hl : us.length = 3) => match us, hl with | [_, _, _], _ => rfl, List.forall_mem_cons.mpr ⟨fun kV doc pm an cdv ct us (hl : us.length = 2) => match us, hl with | [_, _], _ => rfl, List.forall_mem_cons.mpr ⟨fun kV doc pm an cdv ct us (hl : us.length = 2) => match us, hl with | [_, _], _ => rfl, List.forall_mem_cons.mpr ⟨fun kV doc pm an cdv ct us (hl : us.length = 2) => match us, hl with | [_, _], _ => rfl, List.forall_mem_cons.mpr ⟨fun kV doc pm an cdv ct us (hl : us.length = 2) => match us, hl with | [_, _], _ => rfl, List.forall_mem_cons.mpr ⟨fun kV doc pm an cdv ct us (hl : us.length = 2) => match us, hl with | [_, _], _ => rfl, List.forall_mem_cons.mpr ⟨fun kV doc pm an cdv ct us (hl : us.length = 3) => match us, hl with | [_, _, _], _ => rfl, List.forall_mem_cons.mpr ⟨fun kV doc pm an cdv ct us (hl : us.length = 2) => match us, hl with | [_, _], _ => rfl, List.forall_mem_cons.mpr ⟨fun kV doc pm an cdv ct us (hl : us.length = 2) => match us, hl with | [_, _], _ => rfl, List.forall_mem_cons.mpr ⟨fun kV doc pm an cdv ct us (hl : us.length = 3) => match us, hl with | [_, _, _], _ => rfl, List.forall_mem_cons.mpr ⟨fun kV doc pm an cdv ct us (hl : us.length = 3) => match us, hl with | [_, _, _], _ => rfl, List.forall_mem_cons.mpr ⟨fun kV doc pm an cdv ct us (hl : us.length = 3) => match us, hl with | [_, _, _], _ => rfl, List.forall_mem_cons.mpr ⟨fun kV doc pm an cdv ct us (hl : us.length = 1) => match us, hl with | [_], _ => rfl, List.forall_mem_cons.mpr ⟨fun kV doc pm an cdv ct us (hl : us.length = 3) => match us, hl with | [_, _, _], _ => rfl, List.forall_mem_cons.mpr ⟨fun kV doc pm an cdv ct us (hl : us.length = 3) => match us, hl with | [_, _, _], _ => rfl, List.forall_mem_cons.mpr ⟨fun kV doc pm an cdv ct us (hl : us.length = 4) => match us, hl with | [_, _, _, _], _ => rfl, List.forall_mem_cons.mpr ⟨fun kV doc pm an cdv ct us (hl : us.length = 1) => match us, hl with | [_], _ => rfl, List.forall_mem_cons.mpr ⟨fun kV doc pm an cdv ct us (hl : us.length = 4) => match us, hl with | [_, _, _, _], _ => rfl, List.forall_mem_cons.mpr ⟨fun kV doc pm an cdv ct us (hl : us.length = 2) => match us, hl with | [_, _], _ => rfl, List.forall_mem_cons.mpr ⟨fun kV doc pm an cdv ct us (hl : us.length = 4) => match us, hl with | [_, _, _, _], _ => rfl, List.forall_mem_cons.mpr ⟨fun kV doc pm an cdv ct us (hl : us.length = 3) => match us, hl with | [_, _, _], _ => rfl, List.forall_mem_cons.mpr ⟨fun kV doc pm an cdv ct us (hl : us.length = 2) => match us, hl with | [_, _], _ => rfl, List.forall_mem_cons.mpr ⟨fun kV doc pm an cdv ct us (hl : us.length = 3) => match us, hl with | [_, _, _], _ => rfl, List.forall_mem_cons.mpr ⟨fun kV doc pm an cdv ct us (hl : us.length = 1) => match us, hl with | [_], _ => rfl, fun _ h => (nomatch h)⟩⟩⟩⟩⟩⟩⟩⟩⟩⟩⟩⟩⟩⟩⟩⟩⟩⟩⟩⟩⟩⟩⟩⟩⟩⟩⟩⟩⟩⟩⟩⟩⟩⟩
def names : List PySem.Str := (["BoardError", "InvalidBoard", "InvalidActs", "is_integer", "rises", "are_numbers", "is_exchange", "stands", "need_board", "net_of", "all_nets", "are_counts", "net_sum", "shows_gain", "is_gain", "is_act", "acts_stand", "need_acts", "under", "is_gain_under", "_law_same_truth", "_law_cell_at", "_law_mixed", "_law_draw", "_law_pick", "_law_nets", "_law_sum", "_law_shows", "_law_some_of", "_law_all_acts"] : List PySem.Str) ++ (["_law_some_acts", "_law_under", "_law_some_numbers", "_law_some_exchange", "_law_some_board", "_law_some_case"] : List PySem.Str)
abbrev R : PySem.W.OpenRow := PySem.W.OpenLaw.row PySem.Challenge.rw_gainboards_k23_whole_gains_under
abbrev hk : PySem.W.Hook := hookB 6 (faOf T) (fnOfL P T.L) (exOf T)
def ob (s : PySem.W.SharedT) : He.AlD := obsB 6 (faOf T) (fnOfL P T.L) (exOf T) (HandSHeadRun.getT s)
theorem ob_eq (s : PySem.W.SharedT) : ob s = hk.obs s.abs := obsB_eq (HandSHeadRun.getT_eq s)
theorem headRun (w : World) : HandSHeadRun.RunEq R (PySem.W.view R.prog [41]) hk ob 4000 names w := by
  intro os
  kernel_rfl
abbrev kk : Nat := 30
abbrev nn : Nat := 3000
theorem facts (hm : ∀ ns : List Int, ns.length ≤ 63 → ∃ st', run (GmT T nn kk) nn D_law [.scr ns] ⟨none, []⟩ = .ok (.bl true, false) st') {w : World} {K : PySem.W.Frag} {h : Heap} {mg : Str → Option Value} {f : Addr} (X : K.In h) (G : h.Ns mainGlobals mg) (hfa : mg ("law" : Str) = some (.ref f)) (c : SaysB (faOf T) (fnOfL P T.L) (exOf T) K) :
    ∃ (fd : FuncData) (sp : Sp), (∀ (s : Shared) (v : Value), BindsTo s fd ⟨[v], []⟩ [("_law_script", v)]) ∧ (∀ (H : Hp) (a : Addr) (ns : List Int), ns.length ≤ 63 → Only H → L2.SqL K H a (ns.map V.int) → sp [.ref a] H (fun v _ => v = .bl true) fun _ _ _ => False) ∧
      ∀ base : Heap, K.In base → base.Ns mainGlobals mg → FnOk P w K mg base (L2.CX P w) (2 * kk + 2) f fd ["_law_script"] sp := by
  have C : LawCtx P T K mg := law_ctx X G c ok exo gbo bind
  have hl : I_law ∈ T.L := by show I_law ∈ L; unfold L; simp
  obtain ⟨m1, fd, F, B⟩ := C.fn I_law hl
  have e := hfa.symm.trans m1
  cases e
  have b := FunD.bindsA (ps := ["_law_script"]) F fun kV doc pm an cdv ct us hl' => bind I_law hl kV doc pm an cdv ct us hl'
  exact ⟨fd, spOf ⟨K, P, w⟩ (ecOf K T.E) (run (GmT T nn kk) nn D_law), fun s v => b s [v] rfl, fun H a ns hn ho hS => by
    obtain ⟨st', hs⟩ := hm ns hn
    exact sp_law ho hS hs, fun base _ _ => fn_all C kk I_law hl fd F⟩
end
section
open PySem GB
/-! ### acts -/
inductive Act where
  | bar (n : Nat) | fee (n t a : Nat)
deriving DecidableEq
def Act.pv : Act → PV
  | .bar n => .tup [.str "bar", .int n]
  | .fee n t a => .tup [.str "fee", .int n, .int t, .int a]
def Act.d : Act → PyData
  | .bar n => .tuple [.str "bar", .int n]
  | .fee n t a => .tuple [.str "fee", .int n, .int t, .int a]
theorem act_d (a : Act) : a.pv.toD = some a.d := by cases a <;> rfl
theorem act_ds : ∀ xs : List Act, PV.toDs (xs.map Act.pv) = some (xs.map Act.d)
  | [] => rfl
  | a :: xs => by
    show (match PV.toD a.pv, PV.toDs (xs.map Act.pv) with | some d, some ds => some (d :: ds) | _, _ => none) = _
    rw [act_d, act_ds xs]; rfl
theorem act_alike (a b : Act) : W.alike a.d b.d = true := by cases a <;> cases b <;> rfl
def actLt (a b : Act) : Bool := W.dataLt a.d b.d
theorem actLt_irrefl (a : Act) : actLt a a = false := PyProof.Rows.lex_irrefl _
theorem actLt_trans {a b c : Act} (h : actLt a b = true) (h' : actLt b c = true) : actLt a c = true := PyProof.Rows.lex_trans _ _ _ h h'
theorem actLt_neg {a b c : Act} (h : actLt a c = true) : actLt a b = true ∨ actLt b c = true := PyProof.Rows.lex_negTrans _ _ _ h
theorem act_toks {a b : Act} (h : W.keyToks a.d = W.keyToks b.d) : a = b := by
  cases a <;> cases b <;> simp [Act.d, W.keyToks, W.keyToksAll] at h <;> first | (exact absurd h.1 (by decide)) | skip
  · congr 1
    omega
  · obtain ⟨h1, h2, h3⟩ := h
    congr 1 <;> omega
theorem actLt_total {a b : Act} (h : actLt a b = false) (h' : actLt b a = false) : a = b := act_toks (PyProof.Rows.lex_total _ _ h h')
def actLe (a b : Act) : Bool := !actLt b a
theorem sortLe_act (a b : Act) : sortLe a.pv b.pv = actLe a b := by
  show (match a.pv.toD, b.pv.toD with | some d, some e => !W.dataLt e d | _, _ => true) = _
  rw [act_d, act_d]; rfl
def actSort (xs : List Act) : List Act := xs.mergeSort actLe
theorem act_sort (xs : List Act) : (xs.map Act.pv).mergeSort sortLe = (actSort xs).map Act.pv := by
  unfold actSort
  rw [List.map_mergeSort]
  exact fun a _ b _ => (sortLe_act a b).symm
theorem act_sortOk {xs : List Act} (h : xs.length ≤ lim) : sortOk (xs.map Act.d) = true := by
  unfold sortOk alikeList
  simp only [Bool.and_eq_true, Bool.or_eq_true, List.all_eq_true, decide_eq_true_eq, List.length_map]
  refine ⟨⟨⟨fun x hx y hy => ?_, fun x hx => ?_⟩, h⟩, .inl fun x hx => ?_⟩
  · obtain ⟨a, _, rfl⟩ := List.mem_map.mp hx
    obtain ⟨b, _, rfl⟩ := List.mem_map.mp hy
    exact act_alike a b
  · obtain ⟨a, _, rfl⟩ := List.mem_map.mp hx
    cases a <;> exact Nat.le_of_ble_eq_true rfl
  · obtain ⟨a, _, rfl⟩ := List.mem_map.mp hx
    cases a <;> rfl
theorem sorted_acts {xs : List Act} (h : xs.length ≤ lim) : bltop .sorted [.lst (xs.map Act.pv)] = some (.lst ((actSort xs).map Act.pv), true) := by
  show (match PV.toDs (xs.map Act.pv) with | some ds => if sortOk ds then some (PV.lst ((xs.map Act.pv).mergeSort sortLe), true) else none | none => none) = _
  rw [act_ds]
  show (if sortOk (xs.map Act.d) then _ else _) = _
  rw [if_pos (act_sortOk h), act_sort]
theorem actSort_perm (xs : List Act) : (actSort xs).Perm xs := List.mergeSort_perm _ _
theorem actSort_le (xs : List Act) : (actSort xs).Pairwise fun a b => actLe a b = true := by
  refine List.pairwise_mergeSort (fun a b c h1 h2 => ?_) (fun a b => ?_) xs
  · unfold actLe at h1 h2 ⊢
    rw [Bool.not_eq_true'] at h1 h2 ⊢
    cases h : actLt c a with
    | false => rfl
    | true =>
      rcases actLt_neg (b := b) h with h3 | h3
      · rw [h2] at h3; cases h3
      · rw [h1] at h3; cases h3
  · unfold actLe
    cases h : actLt b a with
    | false => rfl
    | true =>
      cases h' : actLt a b with
      | false => rfl
      | true => have := actLt_trans h h'; rw [actLt_irrefl] at this; cases this
/-- of different acts: sorted, each is below the next -/
theorem actSort_lt {xs : List Act} (h : xs.Nodup) : (actSort xs).Pairwise fun a b => actLt a b = true := by
  have nd : (actSort xs).Nodup := (actSort_perm xs).nodup_iff.mpr h
  refine ((actSort_le xs).and nd).imp fun {a b} ⟨h1, h2⟩ => ?_
  unfold actLe at h1
  rw [Bool.not_eq_true'] at h1
  cases h3 : actLt a b with
  | true => rfl
  | false => exact absurd (actLt_total h3 h1) h2

@[simp] theorem asIntO_int {i : Int} : asIntO (.int i) = some i := rfl
theorem canLay_ints : ∀ ns : List Int, PyData.canLayAll0 (ns.map .int) = true
  | [] => rfl
  | n :: ns => by show (PyData.canLay0 (.int n) && PyData.canLayAll0 (ns.map .int)) = true; rw [canLay_ints ns]; rfl
theorem depth_ints : ∀ ns : List Int, PyData.depthAll (ns.map .int) = 0
  | [] => rfl
  | n :: ns => by show max (PyData.depth (.int n)) (PyData.depthAll (ns.map .int)) = 0; rw [depth_ints ns]; rfl
theorem shaped_ints (ns : List Int) : SeqAt.shaped (.list (ns.map .int)) = true := by
  show (PyData.canLayAll0 (ns.map .int) && decide (PyData.depthAll (ns.map .int) + 1 ≤ 64)) = true
  rw [canLay_ints, depth_ints]; rfl
theorem eq_scr (ns : List Int) : cmpop .eq (.scr ns) (.lst []) = some (PyData.eqv (.list (ns.map .int)) (.list [])) := by
  show (if SeqAt.shaped (.list (ns.map .int)) && SeqAt.shaped (.list []) then some (PyData.eqv (.list (ns.map .int)) (.list [])) else none) = _
  rw [shaped_ints]; rfl
theorem s_cell {Γ : Gam} {n : Nat} {ns : List Int} {k : Nat} {s : S} {Q : PV × Bool → S → Prop} (h63 : ns.length ≤ 63) (q : ∀ c, Q (.int c, false) s) : Ok (run Γ n D__law_cell_at [.scr ns, .int k]) s Q := by
  refine ok_run rfl ?_
  by_cases h : k < ns.length
  · simp [D__law_cell_at, c_ret, getB, freezeAll, show (k : Int) < ns.length by omega, idx_scr h, q]
  · simp [D__law_cell_at, c_ret, getB, freezeAll, show ¬ (k : Int) < ns.length by omega, eq_scr]
    split
    · exact q 0
    · rename_i he
      have hn : ns ≠ [] := fun z => he (by subst z; rfl)
      have hl : 0 < ns.length := List.length_pos_iff.mpr hn
      obtain ⟨j, e1, hj⟩ : ∃ j : Nat, (k : Int) % (ns.length : Int) = j ∧ j < ns.length := ⟨k % ns.length, by omega, Nat.mod_lt _ hl⟩
      obtain ⟨d, e2⟩ : ∃ d : Nat, (k : Int) / (ns.length : Int) = d := ⟨k / ns.length, by omega⟩
      rw [bin_modI (by omega)]
      simp [e1, idx_scr hj, getB, getZ, freezeIt]
      rw [bin_divI (by omega) (by omega)]
      simp [e2]
      have hr : rngOk 0 (if (60 : Int) < (d : Int) then (60 : Int) else (d : Int)) = true := by
        unfold rngOk lim
        simp only [Bool.and_eq_true, decide_eq_true_eq]
        split <;> omega
      simp [hr]
      refine ok_for (fun _ e s' => s' = s ∧ ∃ (c : Int) (x : Slt), e = [some (.scr ns, false), some (.int k, false), some (.int c, false), x]) (k := 0) ⟨rfl, _, _, rfl⟩ (fun x _ t e s' hI => ?_) (fun e s' hI => ?_)
      · obtain ⟨rfl, c, x', rfl⟩ := hI
        simp [asgT, getB, getZ]
        rw [bin_divI (by decide) (by decide)]
        simp
      · obtain ⟨rfl, c, x', rfl⟩ := hI
        simp [c_ret, getB, freezeAll]
        rw [bin_modI (by omega)]
        simp [e1, idx_scr hj]
        rw [bin_mulI (by decide)]
        simp
        rw [bin_mulI (by decide)]
        simp
        exact q _
theorem c_appC {Γ : Gam} {n : Nat} {env : Envi} {s : S} {i : Nat} {k : Nat} {Qc : Fl × Envi → S → Prop} (h : getZ env i = some .cnt) (hk : s.cnt = some k) (hl : k < lim) (q : Qc (.next, env) { s with cnt := some (k + 1) }) : Ok (exC Γ n (.app i (.int 0)) env) s Qc := by
  unfold exC
  rw [h]
  unfold Ok wpM M.bind evE M.ret
  simp only [hk, hl, if_true]
  exact q
theorem drp_cle {oo : List OV} {b b' : Nat} {x : PV} {s s' : S} (h : cle oo b s) (h' : cle oo b' s') : drp s.ob.length x s' = s' := drp_id (by rw [h.1, h'.1])
theorem mod_rng {i j : Int} (h : 0 < j) : 0 ≤ i % j ∧ i % j < j := ⟨Int.emod_nonneg _ (by omega), Int.emod_lt_of_pos _ h⟩
theorem s_mixed {Γ Γ' : Gam} {n : Nat} {ns : List Int} {k : Nat} {m : Int} {s : S} {Q : PV × Bool → S → Prop} (h63 : ns.length ≤ 63) (h5 : Γ.fn 5 = some (run Γ' n D__law_cell_at)) (hm : 0 < m) (q : ∀ d, 0 ≤ d → d < m → Q (.int d, false) s) : Ok (run Γ n D__law_mixed [.scr ns, .int k, .int m]) s Q := by
  refine ok_run rfl ?_
  simp [D__law_mixed, c_ret, getB, freezeAll, h5, bor, isOwned]
  refine s_cell h63 fun c => ?_
  have h1 := @mod_rng (c * 1103515245 + 7919 * (k : Int) + 12345) 2147483647 (by decide)
  rw [bin_mulI (by decide), ok_some]
  simp
  rw [bin_mulI' (by decide)]
  simp
  rw [bin_modI (by decide)]
  simp
  rw [bin_powI (by decide) (by decide) (by omega)]
  simp
  rw [bin_modI (by decide)]
  simp
  rw [bin_modI (by decide)]
  simp
  rw [bin_modI hm]
  simp
  exact q _ (mod_rng hm).1 (mod_rng hm).2
theorem s_draw {oo : List OV} {Γ Γ' Γ'' : Gam} {n : Nat} {ns : List Int} {m : Int} {s : S} {b : Nat} {Q : PV × Bool → S → Prop} (h63 : ns.length ≤ 63) (h6 : Γ.fn 6 = some (run Γ' n D__law_mixed)) (h5 : Γ'.fn 5 = some (run Γ'' n D__law_cell_at)) (hm : 0 < m) (hs : cle oo b s) (hb : b < 1000000)
    (q : ∀ d s', 0 ≤ d → d < m → cle oo (b + 1) s' → Q (.int d, false) s') : Ok (run Γ n D__law_draw [.scr ns, .cnt, .int m]) s Q := by
  obtain ⟨ho, k, hk, hkb⟩ := hs
  refine ok_run rfl ?_
  simp only [D__law_draw, c_cons]
  refine c_appC rfl hk (Nat.lt_of_lt_of_le (Nat.lt_of_le_of_lt hkb hb) (by decide)) ?_
  simp [c_ret, getB, freezeAll, h6, bor, isOwned]
  rw [o_lenC rfl]
  refine s_mixed h63 h5 hm fun d h1 h2 => ?_
  rw [drp_id (by rfl)]
  exact q d _ h1 h2 ⟨ho, k + 1, rfl, by omega⟩

theorem cle_mono {oo : List OV} {a b : Nat} {s : S} (h : cle oo a s) (hab : a ≤ b) : cle oo b s := by
  obtain ⟨ho, k, h1, h2⟩ := h
  exact ⟨ho, k, h1, by omega⟩
/-- where each turn draws at most c times -/
theorem ok_mapD {oo : List OV} {f : PV → M (Option PV)} {P : PV → PV → Prop} {Qs : List PV → S → Prop} {c : Nat} {xs : List PV} {b : Nat} {s : S} (h0 : cle oo b s) (h : ∀ x ∈ xs, ∀ b' s, cle oo b' s → b' + c ≤ b + c * xs.length → Ok (f x) s (fun o s' => ∃ y, o = some y ∧ P x y ∧ cle oo (b' + c) s'))
    (q : ∀ ys s', ys.length = xs.length → (∀ y ∈ ys, ∃ x ∈ xs, P x y) → cle oo (b + c * xs.length) s' → Qs ys s') : Ok (mapMx f xs) s Qs := by
  induction xs generalizing Qs s b with
  | nil => exact q [] s rfl (fun _ h => nomatch h) h0
  | cons x xs ih =>
    have e : b + c * (x :: xs).length = b + c + c * xs.length := by rw [List.length_cons, Nat.mul_add]; omega
    unfold mapMx
    rw [ok_bind]
    refine (h x List.mem_cons_self b s h0 (by rw [e]; omega)).mono fun o s' ⟨y, e1, p, i⟩ => ?_
    subst e1
    rw [ok_bind]
    refine ih i (fun y hy b' s hb hle => h y (List.mem_cons_of_mem _ hy) b' s hb (by rw [e]; exact hle)) fun ys s'' hl hp hi => ?_
    refine q (y :: ys) s'' (by rw [List.length_cons, hl, List.length_cons]) (fun z hz => ?_) (by rw [e]; exact hi)
    rcases List.mem_cons.mp hz with rfl | hz
    · exact ⟨x, List.mem_cons_self, p⟩
    · obtain ⟨x', h1, h2⟩ := hp z hz
      exact ⟨x', List.mem_cons_of_mem _ h1, h2⟩
theorem ints_of {lo hi : Int} : ∀ {ys : List PV}, (∀ y ∈ ys, ∃ i : Int, y = .int i ∧ lo ≤ i ∧ i ≤ hi) → ∃ is : List Int, ys = is.map .int ∧ ∀ i ∈ is, lo ≤ i ∧ i ≤ hi
  | [], _ => ⟨[], rfl, fun _ h => nomatch h⟩
  | y :: ys, h => by
    obtain ⟨i, rfl, h1⟩ := h y List.mem_cons_self
    obtain ⟨is, rfl, h2⟩ := ints_of fun z hz => h z (List.mem_cons_of_mem _ hz)
    exact ⟨i :: is, rfl, fun j hj => (List.mem_cons.mp hj).elim (fun e => e ▸ h1) (h2 j)⟩
theorem intsOf_ints (is : List Int) : intsOf (is.map PV.int) = some is := by
  have := intsOf_map (xs := is) (f := id)
  simpa using this
structure DrawOk (Γ : Gam) (n : Nat) : Prop where
  h7 : ∃ Γ1 Γ2 Γ3 : Gam, Γ.fn 7 = some (run Γ1 n D__law_draw) ∧ Γ1.fn 6 = some (run Γ2 n D__law_mixed) ∧ Γ2.fn 5 = some (run Γ3 n D__law_cell_at)
theorem o_draw {oo : List OV} {Γ : Gam} {n : Nat} (h : DrawOk Γ n) {ns : List Int} (h63 : ns.length ≤ 63) {m : Int} {s : S} {b : Nat} {Q : PV × Bool → S → Prop} (hm : 0 < m) (hs : cle oo b s) (hb : b < 1000000)
    (q : ∀ d s', 0 ≤ d → d < m → cle oo (b + 1) s' → Q (.int d, false) s') : Ok (ofO (Γ.fn 7)) s (fun g s => Ok (g [.scr ns, .cnt, .int m]) s Q) := by
  obtain ⟨Γ1, Γ2, Γ3, e1, e2, e3⟩ := h.h7
  rw [e1]
  exact s_draw h63 e2 e3 hm hs hb q

theorem s_pick {oo : List OV} {Γ : Gam} {n : Nat} (h : DrawOk Γ n) {ns : List Int} (h63 : ns.length ≤ 63) {xs : List PV} {s : S} {b : Nat} {Q : PV × Bool → S → Prop} (hx : 0 < xs.length) (hs : cle oo b s) (hb : b < 1000000)
    (q : ∀ x s', x ∈ xs → cle oo (b + 1) s' → Q (x, false) s') : Ok (run Γ n D__law_pick [.scr ns, .cnt, .tup xs]) s Q := by
  refine ok_run rfl ?_
  simp [D__law_pick, c_ret, getB, freezeAll, bor, isOwned]
  refine o_draw h h63 (by omega) hs hb fun d s' h1 h2 h3 => ?_
  obtain ⟨j, rfl⟩ : ∃ j : Nat, d = j := ⟨d.toNat, by omega⟩
  simp [at_nat (show j < xs.length by omega)]
  rw [drp_cle hs h3]
  exact q _ s' (List.getElem_mem _) h3

theorem ok_forB {Qc : Fl × Envi → S → Prop} {t : Tg} {f : Envi → M (Fl × Envi)} (I : Nat → Envi → S → Prop) {B : Nat} {xs : List PV} {k : Nat} {env : Envi} {s : S} (hB : k + xs.length ≤ B) (h0 : I k env s)
    (h : ∀ x ∈ xs, ∀ k env s, k < B → I k env s → Ok (ofO (asgT t x env)) s (fun env' s' => Ok (f env') s' (fun r s' => match r.1 with | .next => I (k + 1) r.2 s' | .ret x f => Qc (.ret x f, r.2) s'))) (q : ∀ env s', I (k + xs.length) env s' → Qc (.next, env) s') :
    Ok (forN t f xs env) s Qc := by
  induction xs generalizing env s k with
  | nil => exact q env s h0
  | cons x xs ih =>
    rw [List.length_cons] at hB
    unfold forN
    rw [ok_bind]
    refine (h x List.mem_cons_self k env s (by omega) h0).mono fun env' s' hb => ?_
    rw [ok_bind]
    refine hb.mono fun r s'' hr => ?_
    obtain ⟨g, e⟩ := r
    cases g with
    | next => exact ih (by omega) hr (fun y hy => h y (List.mem_cons_of_mem _ hy)) fun e s' hi => q e s' (by rw [List.length_cons, show k + (xs.length + 1) = k + 1 + xs.length by omega]; exact hi)
    | ret x f => exact hr
theorem c_app {Γ : Gam} {n : Nat} {env : Envi} {s : S} {i : Nat} {e : Ex} {xs : List PV} {Qc : Fl × Envi → S → Prop} (h : env[i]? = some (some (.lst xs, true))) (hl : xs.length < lim) (q : Ok (evE Γ false e env) s (fun r s' => Qc (.next, env.set i (some (.lst (xs ++ [r.1]), true))) s')) : Ok (exC Γ n (.app i e) env) s Qc := by
  have h1 : getZ env i = none := by unfold getZ; rw [h]
  have h2 : ownL env i = some xs := by unfold ownL; rw [h]
  unfold exC
  rw [h1, h2]
  show Ok (M.bind (ofO (some xs)) _) s Qc
  rw [ok_bind, ok_some, ok_bind]
  exact q.mono fun r s' z => by rw [if_pos hl]; exact z
@[simp] theorem cut_tup {xs : List PV} {lo hi : Option Int} : cutop (.tup xs) lo hi = some (.tup (cut xs lo hi), false) := rfl
@[simp] theorem cut_lst {xs : List PV} {lo hi : Option Int} : cutop (.lst xs) lo hi = some (.lst (cut xs lo hi), true) := rfl
theorem cut_map {α β : Type} {f : α → β} {xs : List α} {lo hi : Option Int} : cut (xs.map f) lo hi = (cut xs lo hi).map f := by
  unfold cut
  rw [List.length_map, List.map_take, List.map_drop]
theorem cut_take {α : Type} {xs : List α} {j : Nat} (h : j ≤ xs.length) : cut xs none (some (j : Int)) = xs.take j := by
  unfold cut
  simp only [sIx]
  rw [if_neg (by omega)]
  simp
theorem cut_drop {α : Type} {xs : List α} {j : Nat} (h : j ≤ xs.length) : cut xs (some (j : Int)) none = xs.drop j := by
  unfold cut
  simp only [sIx]
  rw [if_neg (by omega)]
  simp
  rw [show j.min xs.length = j from Nat.min_eq_left h, List.take_of_length_le (by rw [List.length_drop]; omega)]
theorem bin_addT {a b : List PV} (h : a.length + b.length ≤ 1000000) : binop .add (.tup a) (.tup b) = some (.tup (a ++ b), false) := if_pos (Nat.le_trans h (by decide))

def isI (x : PV) (lo hi : Int) : Bool := match x with | .int i => decide (lo ≤ i) && decide (i ≤ hi) | _ => false
/-- a value of data -/
def dat : PV → Bool
  | .non => true | .bl _ => true | .int _ => true | .str _ => true | .tup _ => true | .lst _ => true | _ => false
theorem s_isint {Γ : Gam} {n : Nat} {x : PV} {lo hi : Int} {s : S} {Q : PV × Bool → S → Prop} (hx : dat x = true) (q : Q (.bl (isI x lo hi), false) s) : Ok (run Γ n D_is_integer [x, .int lo, .int hi]) s Q := by
  refine ok_run rfl ?_
  cases x <;> try contradiction
  case int i =>
    by_cases h : lo ≤ i <;> simp [D_is_integer, c_ret, getB, freezeAll, tyOf, h] <;> simp [isI, h] at q
    all_goals first | exact q | (split <;> simp_all)
  all_goals (simp [D_is_integer, c_ret, getB, freezeAll, tyOf]; exact q)
def areN (v : PV) (c : Nat) (lo hi : Int) : Bool := match v with | .tup xs => decide (xs.length = c) && xs.all (fun x => isI x lo hi) | _ => false
theorem s_arenum {Γ Γ' : Gam} {n : Nat} {v : PV} {c : Nat} {lo hi : Int} {s : S} {Q : PV × Bool → S → Prop} (h0 : Γ.fn 0 = some (run Γ' n D_is_integer)) (hx : dat v = true) (hc : ∀ xs, v = .tup xs → xs.length ≤ lim ∧ ∀ x ∈ xs, dat x = true) (q : Q (.bl (areN v c lo hi), false) s) : Ok (run Γ n D_are_numbers [v, .int c, .int lo, .int hi]) s Q := by
  refine ok_run rfl ?_
  cases v <;> try contradiction
  case tup xs =>
    obtain ⟨h1, h2⟩ := hc xs rfl
    have h1' := h1
    by_cases h : xs.length = c
    · have hm : ∀ Qs : List PV → S → Prop, Qs (xs.map fun x => .bl (isI x lo hi)) s → Ok (mapMx (compF Γ (.call 0 (.cons (.var 4) (.cons (.var 2) (.cons (.var 3) .nil)))) (.name 4) .nil [some (.tup xs, false), some (.int c, false), some (.int lo, false), some (.int hi, false), none]) xs) s Qs := fun Qs q => by
        refine ok_map (g := fun x => some (.bl (isI x lo hi))) (fun x hx Qo q => ?_) (by rw [fm_some]; exact q)
        simp [o_compF, asgT, h0, getB, bor, isOwned]
        exact s_isint (h2 x hx) q
      subst h
      simp [D_are_numbers, c_ret, getB, freezeAll, tyOf, h1]
      refine hm _ ?_
      simp only [all_map, ok_some, asBool_bl]
      have e : areN (.tup xs) xs.length lo hi = xs.all fun x => isI x lo hi := by simp [areN]
      rw [e] at q
      cases hb : xs.all fun x => isI x lo hi
      · rw [hb] at q; rw [if_neg Bool.false_ne_true, drp_self]; exact q
      · rw [hb] at q; rw [if_pos rfl, drp_self]; exact q
    · have h' : ¬ ((xs.length : Int) = (c : Int)) := by omega
      simp [areN, h] at q
      simp [D_are_numbers, c_ret, getB, freezeAll, tyOf, h, h', q]
  all_goals (simp [D_are_numbers, c_ret, getB, freezeAll, tyOf]; exact q)


/-- small data, two deep -/
def sml : Nat → PV → Bool
  | 0, v => dat v
  | d + 1, v => dat v && (match v with | .tup xs => decide (xs.length ≤ lim) && xs.all (sml d) | _ => true)
theorem sml_dat : ∀ {d : Nat} {v : PV}, sml d v = true → dat v = true
  | 0, _, h => h
  | d + 1, v, h => by unfold sml at h; rw [Bool.and_eq_true] at h; exact h.1
theorem sml_tup {d : Nat} {xs : List PV} (h : sml (d + 1) (.tup xs) = true) : xs.length ≤ lim ∧ ∀ x ∈ xs, sml d x = true := by
  unfold sml at h
  simp only [Bool.and_eq_true, decide_eq_true_eq, List.all_eq_true] at h
  exact h.2
theorem areN_ints {v : PV} {c : Nat} {lo hi : Int} (h : areN v c lo hi = true) : ∃ is : List Int, v = .tup (is.map .int) := by
  cases v <;> try contradiction
  rename_i xs
  simp only [areN, Bool.and_eq_true, List.all_eq_true] at h
  obtain ⟨_, h⟩ := h
  refine ⟨xs.map fun x => match x with | .int i => i | _ => 0, ?_⟩
  congr 1
  rw [List.map_map]
  refine (List.map_id xs).symm.trans (List.map_congr_left fun x hx => ?_)
  have := h x hx
  cases x <;> try contradiction
  rfl
def sumI (v : PV) : Int := match v with | .tup xs => (match intsOf xs with | some is => is.sum | none => 0) | _ => 0
def isEx (t : Nat) (v : PV) : Bool := match v with | .tup [a, b] => areN a t 0 5 && areN b t 0 5 && decide (0 < sumI a) | _ => false
theorem s_ex {Γ Γ1 Γ0 : Gam} {n : Nat} {v : PV} {t : Nat} {s : S} {Q : PV × Bool → S → Prop} (h1 : Γ.fn 1 = some (run Γ1 n D_are_numbers)) (h0 : Γ1.fn 0 = some (run Γ0 n D_is_integer)) (hx : sml 2 v = true) (q : Q (.bl (isEx t v), false) s) : Ok (run Γ n D_is_exchange [.int t, v]) s Q := by
  refine ok_run rfl ?_
  have hd := sml_dat hx
  cases v <;> try contradiction
  case tup xs =>
    obtain ⟨hl, hs⟩ := sml_tup hx
    by_cases h : xs.length = 2
    · rcases xs with _ | ⟨a, _ | ⟨b, _ | ⟨_, _⟩⟩⟩ <;> simp at h
      have ha := hs a (by simp)
      have hb := hs b (by simp)
      have na : ∀ {Q : PV × Bool → S → Prop}, Q (.bl (areN a t 0 5), false) s → Ok (run Γ1 n D_are_numbers [a, .int t, .int 0, .int 5]) s Q := fun q => s_arenum h0 (sml_dat ha) (fun xs e => by subst e; obtain ⟨z1, z2⟩ := sml_tup ha; exact ⟨z1, fun x hx => z2 x hx⟩) q
      have nb : ∀ {Q : PV × Bool → S → Prop}, Q (.bl (areN b t 0 5), false) s → Ok (run Γ1 n D_are_numbers [b, .int t, .int 0, .int 5]) s Q := fun q => s_arenum h0 (sml_dat hb) (fun xs e => by subst e; obtain ⟨z1, z2⟩ := sml_tup hb; exact ⟨z1, fun x hx => z2 x hx⟩) q
      simp [D_is_exchange, c_ret, getB, freezeAll, tyOf, h1, bor, isOwned, at?, ixN]
      refine na ?_
      cases e1 : areN a t 0 5
      · simp [isEx, e1] at q
        simp [q]
      · simp [c_ret, getB, freezeAll, h1, bor, isOwned, at?, ixN]
        refine nb ?_
        cases e2 : areN b t 0 5
        · simp [isEx, e1, e2] at q
          simp [q]
        · obtain ⟨is, rfl⟩ := areN_ints e1
          have e3 : intsOf (is.map PV.int) = some is := by
            have := intsOf_map (xs := is) (f := id)
            simpa using this
          simp [isEx, e1, e2, sumI, e3] at q
          simp [getB, at?, ixN, sum_tup e3, q]
          split <;> simp_all
    · have h' : ¬ ((xs.length : Int) = 2) := by omega
      have e : isEx t (.tup xs) = false := by
        unfold isEx
        split
        · rename_i a b hab
          cases hab
          simp at h
        · rfl
      rw [e] at q
      simp [D_is_exchange, c_ret, getB, freezeAll, tyOf, h', q]
  all_goals (simp [D_is_exchange, c_ret, getB, freezeAll, tyOf]; exact q)
def stB' (v : PV) : Bool := match v with | .tup [.int t, .tup es] => decide (2 ≤ t) && decide (t ≤ 4) && decide (es.length ≤ 6) && es.all (isEx t.toNat) | _ => false
theorem s_stands {Γ Γ2 Γ1 Γ0 Γ0' : Gam} {n : Nat} {v : PV} {s : S} {Q : PV × Bool → S → Prop} (h0 : Γ.fn 0 = some (run Γ0' n D_is_integer)) (h2 : Γ.fn 2 = some (run Γ2 n D_is_exchange)) (h1 : Γ2.fn 1 = some (run Γ1 n D_are_numbers)) (h0' : Γ1.fn 0 = some (run Γ0 n D_is_integer)) (hx : sml 4 v = true) (q : Q (.bl (stB' v), false) s) : Ok (run Γ n D_stands [v]) s Q := by
  refine ok_run rfl ?_
  have hd := sml_dat hx
  cases v <;> try contradiction
  case tup xs =>
    obtain ⟨hl, hs⟩ := sml_tup hx
    by_cases h : xs.length = 2
    · rcases xs with _ | ⟨a, _ | ⟨b, _ | ⟨_, _⟩⟩⟩ <;> simp at h
      have ha := hs a (by simp)
      have hb := hs b (by simp)
      simp [D_stands, c_ret, getB, freezeAll, tyOf, h0, bor, isOwned, at?, ixN]
      refine s_isint (sml_dat ha) ?_
      cases e1 : isI a 2 4
      · have e : stB' (.tup [a, b]) = false := by
          unfold stB'
          split
          · rename_i t es hab
            cases hab
            simp [isI] at e1
            simp
            omega
          · rfl
        rw [e] at q
        simp [q]
      · cases a <;> try contradiction
        rename_i t
        simp [isI] at e1
        have hbd := sml_dat hb
        cases b <;> try contradiction
        case tup es =>
          obtain ⟨hl2, hs2⟩ := sml_tup hb
          by_cases h6 : es.length ≤ 6
          · have h6' : ¬ (6 < (es.length : Int)) := by omega
            have ht : ((t.toNat : Nat) : Int) = t := by omega
            have hm : ∀ Qs : List PV → S → Prop, Qs (es.map fun x => .bl (isEx t.toNat x)) s → Ok (mapMx (compF Γ (.call 2 (.cons (.idx (.var 0) (.int 0)) (.cons (.var 1) .nil))) (.name 1) .nil [some (.tup [.int t, .tup es], false), none]) es) s Qs := fun Qs q => by
              refine ok_map (g := fun x => some (.bl (isEx t.toNat x))) (fun x hx Qo q => ?_) (by rw [fm_some]; exact q)
              simp [o_compF, asgT, h2, getB, bor, isOwned, at?, ixN]
              rw [← ht]
              exact s_ex h1 h0' (hs2 x hx) (by simpa using q)
            simp [getB, freezeAll, tyOf, at?, ixN, h6', hl2, c_ret]
            refine hm _ ?_
            have e : stB' (.tup [.int t, .tup es]) = es.all (isEx t.toNat) := by simp [stB', e1, h6]
            rw [e] at q
            simp only [all_map, ok_some, drp_self]
            exact q
          · have h6' : 6 < (es.length : Int) := by omega
            have e : stB' (.tup [.int t, .tup es]) = false := by simp [stB', h6]
            rw [e] at q
            simp [getB, freezeAll, tyOf, at?, ixN, h6', c_ret, q]
        all_goals (simp [getB, freezeAll, tyOf, at?, ixN, c_ret]; exact q)
    · have h' : ¬ ((xs.length : Int) = 2) := by omega
      have e : stB' (.tup xs) = false := by
        unfold stB'
        split
        · rename_i a b hab
          cases hab
          simp at h
        · rfl
      rw [e] at q
      simp [D_stands, c_ret, getB, freezeAll, tyOf, h', q]
  all_goals (simp [D_stands, c_ret, getB, freezeAll, tyOf]; exact q)

theorem s_nums {oo : List OV} {Γ : Gam} {n : Nat} (h : DrawOk Γ n) {ns : List Int} (h63 : ns.length ≤ 63) {t : Nat} {hi : Int} {s : S} {b : Nat} {Q : PV × Bool → S → Prop} (ht : t ≤ 60) (hh : 0 ≤ hi) (hs : cle oo b s) (hb : b + 60 < 1000000)
    (q : ∀ (is : List Int) s', is.length = t → (∀ i ∈ is, 0 ≤ i ∧ i ≤ hi) → cle oo (b + t) s' → Q (.tup (is.map .int), false) s') : Ok (run Γ n D__law_some_numbers [.scr ns, .cnt, .int t, .int hi]) s Q := by
  refine ok_run rfl ?_
  have hr : rngOk 0 (t : Int) = true := by
    unfold rngOk lim
    simp only [Bool.and_eq_true, decide_eq_true_eq]
    omega
  have hl : (rangeW 0 (t : Int)).length = t := by unfold rangeW; simp
  simp [D__law_some_numbers, c_ret, getB, freezeAll, hr, hl, show t ≤ lim by unfold lim; omega]
  refine ok_mapD (c := 1) (P := fun _ y => ∃ i : Int, y = .int i ∧ 0 ≤ i ∧ i ≤ hi) hs (fun x _ b' s' hb' hle => ?_) (fun ys s' hy hp hc => ?_)
  · simp [o_compF, asgT, getB, bor, isOwned]
    rw [hl] at hle
    refine o_draw h h63 (by omega) hb' (by omega) fun d s'' h1 h2 h3 => ?_
    simp
    refine ⟨?_, h3⟩
    split <;> omega
  · obtain ⟨is, rfl, h2⟩ := ints_of fun y hy => (hp y hy).elim fun _ z => z.2
    rw [drp_cle hs hc]
    exact q is s' (by rw [hl] at hy; simpa using hy) h2 (by rw [hl] at hc; simpa using hc)

def exOk (t : Nat) (v : PV) : Prop := ∃ a g : List Int, v = .tup [.tup (a.map .int), .tup (g.map .int)] ∧ a.length = t ∧ g.length = t ∧ (∀ i ∈ a, 0 ≤ i ∧ i ≤ 5) ∧ (∀ i ∈ g, 0 ≤ i ∧ i ≤ 5) ∧ 0 < a.sum
theorem sum_nonneg {a : List Int} (h : ∀ i ∈ a, 0 ≤ i) : 0 ≤ a.sum := by
  induction a with
  | nil => exact Int.le_refl 0
  | cons x a ih =>
    rw [List.sum_cons]
    have := h x List.mem_cons_self
    have := ih fun i hi => h i (List.mem_cons_of_mem _ hi)
    omega
theorem s_someEx {oo : List OV} {Γ Γ9 : Gam} {n : Nat} (h : DrawOk Γ n) (h9 : Γ.fn 9 = some (run Γ9 n D__law_some_numbers)) (hd9 : DrawOk Γ9 n) {ns : List Int} (h63 : ns.length ≤ 63) {t : Nat} {s : S} {b : Nat} {Q : PV × Bool → S → Prop} (ht : 2 ≤ t ∧ t ≤ 4) (hs : cle oo b s) (hb : b + 100 < 1000000)
    (q : ∀ v s', exOk t v → cle oo (b + 10) s' → Q (v, false) s') : Ok (run Γ n D__law_some_exchange [.scr ns, .cnt, .int t]) s Q := by
  refine ok_run rfl ?_
  simp [D__law_some_exchange, c_ret, getB, freezeAll, h9, bor, isOwned]
  refine s_nums hd9 h63 (by omega) (by omega) hs (by omega) fun is s1 hl hr hc => ?_
  simp [getB, sum_tup (intsOf_ints is)]
  split
  · rename_i h0
    refine o_draw h h63 (by omega) hc (by omega) fun d s2 d1 d2 hc2 => ?_
    simp [getB, isOmit]
    obtain ⟨j, rfl⟩ : ∃ j : Nat, d = j := ⟨d.toNat, by omega⟩
    have hj : j < is.length := by omega
    refine o_draw h h63 (by omega) hc2 (by omega) fun e s3 e1 e2 hc3 => ?_
    simp
    rw [show ((j : Int) + 1) = ((j + 1 : Nat) : Int) by omega, cut_map, cut_map, cut_take (by omega), cut_drop (by omega), bin_addT (by simp; omega)]
    simp
    rw [bin_addT (by simp; omega)]
    simp [getZ]
    refine s_nums hd9 h63 (by omega) (by omega) hc3 (by omega) fun js s4 hl2 hr2 hc4 => ?_
    have b1 : ∀ i ∈ is.take j, 0 ≤ i ∧ i ≤ 3 := fun i hi => hr i (List.mem_of_mem_take hi)
    have b2 : ∀ i ∈ is.drop (j + 1), 0 ≤ i ∧ i ≤ 3 := fun i hi => hr i (List.mem_of_mem_drop hi)
    have s1' := sum_nonneg fun i hi => (b1 i hi).1
    have s2' := sum_nonneg fun i hi => (b2 i hi).1
    rw [drp_cle hs hc4]
    refine q _ s4 ⟨is.take j ++ [1 + e] ++ is.drop (j + 1), js, by simp [List.map_take, List.map_drop], by simp; omega, hl2, fun i hi => ?_, fun i hi => by have := hr2 i hi; omega, by simp; omega⟩ (cle_mono hc4 (by omega))
    simp only [List.append_assoc, List.mem_append, List.mem_singleton] at hi
    rcases hi with hi | hi | hi
    · have := b1 i hi; omega
    · omega
    · have := b2 i hi; omega
  · rename_i h0
    simp [c_ret, getB, getZ, freezeAll, h9, bor, isOwned]
    refine s_nums hd9 h63 (by omega) (by omega) hc (by omega) fun js s2 hl2 hr2 hc2 => ?_
    simp
    have h1 := sum_nonneg fun i hi => (hr i hi).1
    rw [drp_cle hs hc2]
    exact q _ s2 ⟨is, js, rfl, hl, hl2, fun i hi => by have := hr i hi; omega, fun i hi => by have := hr2 i hi; omega, by omega⟩ (cle_mono hc2 (by omega))
structure BoardOk (Γ : Gam) (n : Nat) : Prop where
  d : DrawOk Γ n
  h8 : ∃ Γ8, Γ.fn 8 = some (run Γ8 n D__law_pick) ∧ DrawOk Γ8 n
  h10 : ∃ Γ10 Γ9, Γ.fn 10 = some (run Γ10 n D__law_some_exchange) ∧ DrawOk Γ10 n ∧ Γ10.fn 9 = some (run Γ9 n D__law_some_numbers) ∧ DrawOk Γ9 n
theorem exs_of {t : Nat} {xs : List PV} {ys : List PV} (hp : ∀ y ∈ ys, ∃ x ∈ xs, exOk t y) : ∀ y ∈ ys, exOk t y := fun y hy => (hp y hy).elim fun _ z => z.2
theorem s_someBoard {oo : List OV} {Γ : Gam} {n : Nat} (h : BoardOk Γ n) {ns : List Int} (h63 : ns.length ≤ 63) {s : S} {b : Nat} {Q : PV × Bool → S → Prop} (hs : cle oo b s) (hb : b + 1000 < 1000000)
    (q : ∀ (t : Nat) (es : List PV) s', 2 ≤ t → t ≤ 4 → es.length ≤ 6 → (∀ e ∈ es, exOk t e) → cle oo (b + 60) s' → Q (.tup [.int t, .tup es], false) s') : Ok (run Γ n D__law_some_board [.scr ns, .cnt]) s Q := by
  obtain ⟨Γ8, e8, d8⟩ := h.h8
  obtain ⟨Γ10, Γ9, e10, d10, e9, d9⟩ := h.h10
  refine ok_run rfl ?_
  simp [D__law_some_board, getB, getZ, e8, bor, isOwned]
  refine s_pick d8 h63 (by decide) hs (by omega) fun x s1 hx hc1 => ?_
  obtain ⟨t, rfl, ht⟩ : ∃ t : Nat, x = .int t ∧ 2 ≤ t ∧ t ≤ 4 := by
    simp at hx
    rcases hx with rfl | rfl | rfl
    · exact ⟨2, rfl, by decide⟩
    · exact ⟨3, rfl, by decide⟩
    · exact ⟨4, rfl, by decide⟩
  refine o_draw h.d h63 (by decide) hc1 (by omega) fun d s2 d1 d2 hc2 => ?_
  have hr : rngOk 0 d = true := by
    unfold rngOk lim
    simp only [Bool.and_eq_true, decide_eq_true_eq]
    omega
  have hl : (rangeW 0 d).length ≤ 4 := by unfold rangeW; simp; omega
  simp [hr, show (rangeW 0 d).length ≤ lim by unfold lim; omega]
  refine ok_mapD (c := 10) (P := fun _ y => exOk t y) hc2 (fun x _ b' s' hb' hle => ?_) (fun es s3 he hp hc3 => ?_)
  · simp [o_compF, asgT, e10, getB, bor, isOwned]
    refine s_someEx d10 e9 d9 h63 ht hb' (by omega) fun v s'' hv hc => ?_
    exact ⟨hv, hc⟩
  · have hp := exs_of hp
    simp [getB, getZ, isOmit, freezeIt, freeze1]
    have hcut : ∀ x ∈ cut es none (some 2), exOk t x := fun x hx => hp x (by
      unfold cut at hx
      exact List.mem_of_mem_drop (List.mem_of_mem_take hx))
    have hcl : (cut es none (some 2)).length ≤ 2 := by
      unfold cut
      rw [List.length_take]
      have : sIx es.length es.length (some 2) ≤ 2 := by
        simp [sIx]
        exact Nat.min_le_left _ _
      omega
    refine ok_forB (B := 2) (fun j env s' => ∃ (xs : List PV) (y4 y5 y6 : Slt), env = [some (.scr ns, false), some (.cnt, false), some (.int t, false), some (.lst xs, true), y4, y5, y6] ∧ xs.length ≤ 4 + j ∧ (∀ x ∈ xs, exOk t x) ∧ cle oo (b + 2 + 40 + j) s') (k := 0) (by omega) ⟨es, _, _, _, rfl, by omega, hp, cle_mono hc3 (by omega)⟩ (fun x hx j env s' hj hI => ?_) (fun env s' hI => ?_)
    · obtain ⟨xs, y4, y5, y6, rfl, hxl, hxe, hcs⟩ := hI
      obtain ⟨a, g, rfl, la, lg, ha, hg, hsum⟩ := hcut x hx
      simp [asgT, asgTs, bor, isOwned]
      refine o_draw h.d h63 (by decide) hcs (by omega) fun d s2 d1 d2 hc2 => ?_
      simp [getB, sum_tup (intsOf_ints g)]
      by_cases h0 : d = 0
      · simp [h0]
        by_cases hg0 : 0 < g.sum
        · simp [hg0]
          refine c_app rfl (by unfold lim; omega) ?_
          simp [getZ]
          exact ⟨by omega, fun x hx => hx.elim (hxe x) (fun e => e ▸ ⟨g, a, rfl, lg, la, hg, ha, hg0⟩), cle_mono hc2 (by omega)⟩
        · simp [hg0]
          exact ⟨by omega, hxe, cle_mono hc2 (by omega)⟩
      · simp [h0]
        exact ⟨by omega, hxe, cle_mono hc2 (by omega)⟩
    · obtain ⟨xs, y4, y5, y6, rfl, hxl, hxe, hcs⟩ := hI
      simp [c_ret, getB, getZ, freezeAll]
      rw [drp_cle hs hcs]
      exact q t xs s' ht.1 ht.2 (by omega) hxe (cle_mono hcs (by omega))
/-! ### the law -/
theorem areN_map {is : List Int} {t : Nat} {lo hi : Int} (hl : is.length = t) (h : ∀ i ∈ is, lo ≤ i ∧ i ≤ hi) : areN (.tup (is.map .int)) t lo hi = true := by
  simp [areN, hl]
  intro i hi
  have := h i hi
  simp [isI, this]
theorem isEx_ok {t : Nat} {v : PV} (h : exOk t v) : isEx t v = true := by
  obtain ⟨a, g, rfl, la, lg, ha, hg, hs⟩ := h
  simp [isEx, areN_map la ha, areN_map lg hg, sumI, intsOf_ints, hs]
theorem sml_ints {is : List Int} (h : is.length ≤ lim) : sml 1 (.tup (is.map .int)) = true := by
  simp [sml, dat, h]
theorem sml_up : ∀ {d : Nat} {v : PV}, sml (d + 1) v = true → sml d v = true
  | 0, v, h => sml_dat h
  | d + 1, v, h => by
    unfold sml at h ⊢
    rw [Bool.and_eq_true] at h ⊢
    refine ⟨h.1, ?_⟩
    cases v <;> try rfl
    rename_i xs
    have h2 := h.2
    simp only [Bool.and_eq_true, decide_eq_true_eq, List.all_eq_true] at h2 ⊢
    exact ⟨h2.1, fun x hx => sml_up (h2.2 x hx)⟩

theorem sml_board {t : Nat} {es : List PV} (ht : t ≤ 4) (hl : es.length ≤ 6) (he : ∀ e ∈ es, exOk t e) : sml 4 (.tup [.int t, .tup es]) = true := by
  have h2 : ∀ e ∈ es, sml 2 e = true := fun e hm => by
    obtain ⟨a, g, rfl, la, lg, _, _, _⟩ := he e hm
    have h1 := @sml_ints a (by unfold lim; omega)
    have h3 := @sml_ints g (by unfold lim; omega)
    show (true && (decide (([.tup (a.map .int), .tup (g.map .int)] : List PV).length ≤ lim) && List.all [.tup (a.map .int), .tup (g.map .int)] (sml 1))) = true
    rw [List.all_cons, List.all_cons, h1, h3]
    rfl
  have h3 : sml 3 (.tup es) = true := by
    show (true && (decide (es.length ≤ lim) && es.all (sml 2))) = true
    rw [List.all_eq_true.mpr h2, decide_eq_true (by unfold lim; omega)]
    rfl
  show (true && (decide (([.int t, .tup es] : List PV).length ≤ lim) && List.all [.int t, .tup es] (sml 3))) = true
  rw [List.all_cons, List.all_cons, h3]
  rfl
theorem stB_board {t : Nat} {es : List PV} (ht : 2 ≤ t ∧ t ≤ 4) (hl : es.length ≤ 6) (he : ∀ e ∈ es, exOk t e) : stB' (.tup [.int t, .tup es]) = true := by
  simp [stB', hl]
  exact ⟨by omega, fun e hm => isEx_ok (he e hm)⟩

theorem asgT_tup {ts : Tgs} {xs : List PV} {env : Envi} : asgT (.tup ts) (.tup xs) env = asgTs ts xs env := rfl
theorem asgT_name {i : Nat} {x : PV} {env : Envi} : asgT (.name i) x env = some (env.set i (some (x, false))) := rfl
theorem asgTs_nil {env : Envi} : asgTs .nil [] env = some env := rfl
theorem asgTs_cons {t : Tg} {ts : Tgs} {x : PV} {xs : List PV} {env : Envi} : asgTs (.cons t ts) (x :: xs) env = (match asgT t x env with | some env' => asgTs ts xs env' | none => none) := rfl

def dropC : Nat → Cmds → Cmds
  | 0, c => c
  | k + 1, .cons _ c => dropC k c
  | _, .nil => .nil
def nthC : Nat → Cmds → Cmd
  | 0, .cons c _ => c
  | k + 1, .cons _ c => nthC k c
  | _, .nil => .pass
def tailOk : Res (Fl × Envi) → Bool
  | .ok (.ret (.bl true) false, _) _ => true
  | _ => false
theorem tail_ok {m : M (Fl × Envi)} {s : S} {Q : Fl × Envi → S → Prop} (h : tailOk (m s) = true) (q : ∀ e s', Q (.ret (.bl true) false, e) s') : Ok m s Q := by
  unfold Ok wpM
  cases hm : m s with
  | stuck => rw [hm] at h; cases h
  | exc k s' => rw [hm] at h; cases h
  | ok a s' =>
    obtain ⟨f, e⟩ := a
    rw [hm] at h
    cases f with
    | next => cases h
    | ret x b =>
      cases x <;> try contradiction
      rename_i c
      cases c <;> cases b <;> try contradiction
      exact q e s'
@[simp] theorem c_mkcnt {Γ : Gam} {n i : Nat} {env : Envi} {o : List OV} {Qc : Fl × Envi → S → Prop} : Ok (exC Γ n (.mkcnt i) env) ⟨none, o⟩ Qc = Qc (.next, env.set i (some (.cnt, false))) ⟨some 0, o⟩ := rfl
/-- one statement of a body; the rest stands by its number -/
theorem ok_step {Γ : Gam} {n k : Nat} {B : Cmds} {c : Cmd} {env : Envi} {s : S} {Qc : Fl × Envi → S → Prop} (e : dropC k B = .cons c (dropC (k + 1) B)) (h : Ok (exC Γ n c env) s (nxt Γ n (dropC (k + 1) B) Qc)) : Ok (exCs Γ n (dropC k B) env) s Qc := by
  rw [e, c_cons]; exact h

theorem act_canLay (a : Act) : PyData.canLay0 a.d = true := by cases a <;> kernel_rfl
theorem act_canLays : ∀ xs : List Act, PyData.canLayAll0 (xs.map Act.d) = true
  | [] => rfl
  | a :: xs => by show (PyData.canLay0 a.d && PyData.canLayAll0 (xs.map Act.d)) = true; rw [act_canLay, act_canLays xs]; rfl
theorem act_depths : ∀ xs : List Act, PyData.depthAll (xs.map Act.d) ≤ 1
  | [] => Nat.zero_le _
  | a :: xs => by
    show max (PyData.depth a.d) (PyData.depthAll (xs.map Act.d)) ≤ 1
    have := act_depths xs
    have h : PyData.depth a.d = 1 := by cases a <;> rfl
    omega
theorem act_shaped (xs : List Act) : SeqAt.shaped (.list (xs.map Act.d)) = true := by
  show (PyData.canLayAll0 (xs.map Act.d) && decide (PyData.depthAll (xs.map Act.d) + 1 ≤ 64)) = true
  have := act_depths xs
  rw [act_canLays, decide_eq_true (by omega)]; rfl
theorem ne_nil_acts (xs : List Act) : cmpop .ne (.lst (xs.map Act.pv)) (.lst []) = some (!xs.isEmpty) := by
  show onot (PV.eq? (.lst (xs.map Act.pv)) (.lst [])) = _
  have e : PV.eq? (.lst (xs.map Act.pv)) (.lst []) = some (PyData.eqv (.list (xs.map Act.d)) (.list [])) := by
    unfold PV.eq?
    rw [show PV.toD (.lst (xs.map Act.pv)) = (match PV.toDs (xs.map Act.pv) with | some ds => some (.list ds) | none => none) from rfl, act_ds]
    show (if SeqAt.shaped (.list (xs.map Act.d)) && SeqAt.shaped (.list []) then _ else _) = _
    rw [act_shaped]; rfl
  rw [e]
  cases xs <;> rfl
theorem lt_acts (a b : Act) : cmpop .lt a.pv b.pv = some (actLt a b) := by cases a <;> cases b <;> rfl
theorem eraseIdx_map {α β : Type} (f : α → β) : ∀ (xs : List α) (i : Nat), (xs.map f).eraseIdx i = (xs.eraseIdx i).map f
  | [], _ => rfl
  | _ :: _, 0 => rfl
  | x :: xs, i + 1 => by show f x :: (xs.map f).eraseIdx i = f x :: (xs.eraseIdx i).map f; rw [eraseIdx_map f xs i]
theorem perm_erase {α : Type} : ∀ (xs : List α) (i : Nat) (h : i < xs.length), xs.Perm (xs[i] :: xs.eraseIdx i)
  | x :: xs, 0, _ => .refl _
  | x :: xs, i + 1, h => by
    have := perm_erase xs i (Nat.lt_of_succ_lt_succ h)
    exact (this.cons x).trans (.swap _ _ _)
theorem actSort_uniq {xs ys : List Act} (h : ys.Pairwise fun a b => actLt a b = true) (p : xs.Perm ys) : actSort xs = ys := by
  have nd : xs.Nodup := p.nodup_iff.mpr (h.imp fun {a b} z e => by subst e; rw [actLt_irrefl] at z; cases z)
  refine List.Perm.eq_of_pairwise (le := fun a b => actLt a b = true) (fun a b _ _ h1 h2 => ?_) (actSort_lt nd) h ((actSort_perm xs).trans p)
  have := actLt_trans h1 h2
  rw [actLt_irrefl] at this
  cases this
@[simp] theorem freeze_nil : freezeAll [] = [] := rfl
theorem s_someOf {Γ : Gam} {n : Nat} (h : DrawOk Γ n) {ns : List Int} (h63 : ns.length ≤ 63) {acts : List Act} {v : PV} (hv : v = .lst (acts.map Act.pv) ∨ v = .tup (acts.map Act.pv)) {c : Nat} {s : S} {b : Nat} {oo : List OV} {Q : PV × Bool → S → Prop}
    (hn : acts.Nodup) (hs : cle oo b s) (hl : acts.length ≤ 10000) (hb : b + acts.length < 900000) (hf : acts.length < n)
    (q : ∀ (ys : List Act) s', (∀ a ∈ ys, a ∈ acts) → ys.Pairwise (fun a b => actLt a b = true) → ys.length = min c acts.length → cle oo (b + acts.length) s' → Q (.tup (ys.map Act.pv), false) s') :
    Ok (run Γ n D__law_some_of [.scr ns, .cnt, v, .int c]) s Q := by
  refine ok_run rfl ?_
  have e1 : bltop .list [v] = some (.lst (acts.map Act.pv), true) := by rcases hv with rfl | rfl <;> rfl
  have hv' : getB [some (PV.scr ns, false), some (PV.cnt, false), some (v, false), some (PV.int c, false), none, none] 2 = some v := rfl
  simp only [D__law_some_of, c_cons, c_par, o_rC, o_rN, o_blt, o_bsC, o_bsN, List.map_cons, List.map_nil]
  simp [hv', putRs]
  rw [o_blt' (by rcases hv with rfl | rfl <;> simp), e1]
  simp
  refine ok_while (fun m env s => ∃ left found : List Act, env = [some (.scr ns, false), some (.cnt, false), some (v, false), some (.int c, false), some (.lst (left.map Act.pv), true), some (.lst (found.map Act.pv), true)] ∧ m = left.length ∧ (found ++ left).Perm acts ∧ found.length ≤ c ∧ cle oo (b + found.length) s)
    (m := acts.length) ⟨acts, [], by simp, rfl, by simp, Nat.zero_le _, by simpa using hs⟩ hf (fun m env s1 hI => ?_)
  obtain ⟨left, found, rfl, rfl, hp, hc, hs'⟩ := hI
  have hlen : found.length + left.length = acts.length := by rw [← List.length_append]; exact hp.length_eq
  have fin : found.length = min c acts.length → Ok (exCs Γ n (.cons (.ret (.blt .tuple (.cons (.blt .sorted (.cons (.var 5) .nil)) .nil))) .nil) [some (.scr ns, false), some (.cnt, false), some (v, false), some (.int c, false), some (.lst (left.map Act.pv), true), some (.lst (found.map Act.pv), true)]) s1 (fun r s' => match r.1 with | .ret x f => Q (x, f) (drp s.ob.length x s') | .next => Q (.non, false) (drp s.ob.length .non s')) := fun hm => by
    simp [c_ret, getB, freezeAll]
    rw [sorted_acts (by unfold lim; omega)]
    simp
    have hnd : found.Nodup := (List.nodup_append.mp (hp.nodup_iff.mpr hn)).1
    rw [drp_cle hs hs']
    refine q _ s1 (fun a ha => hp.mem_iff.mp (List.mem_append_left _ ((actSort_perm found).mem_iff.mp ha))) (actSort_lt hnd) ?_ (cle_mono hs' (by omega))
    rw [(actSort_perm found).length_eq]; exact hm
  simp only [evalB, ok_bind, ok_fst, o_and, o_andC, o_andN, o_cmp, o_varT, o_lst, o_esN]
  simp only [getB, List.getElem?_cons_zero, List.getElem?_cons_succ, Option.map_some, ok_some, ne_nil_acts, asBool_bl]
  cases left with
  | nil =>
    simp
    rw [← c_cons]
    exact fin (by simp at hlen; omega)
  | cons a0 left0 =>
    simp [getB]
    by_cases hlt : found.length < c
    · simp [hlt]
      refine c_apppop (xs := (a0 :: left0).map Act.pv) (zs := found.map Act.pv) rfl rfl (by decide) (by simp; simp at hlen; unfold lim; omega) (by simp; unfold lim; omega) ?_
      simp [getB, bor, isOwned]
      refine o_draw h h63 (by omega) hs' (by omega) fun d s2 d1 d2 hc2 => ?_
      obtain ⟨j, rfl⟩ : ∃ j : Nat, d = j := ⟨d.toNat, by omega⟩
      have hj : j < (a0 :: left0).length := by simp; omega

      refine ⟨j, rfl, j, by unfold ixN; rw [if_pos (by omega), if_pos (by simp; omega)]; simp, ((a0 :: left0)[j]).pv, ?_, ?_⟩
      · have : ((a0 :: left0).map Act.pv)[j]? = some ((a0 :: left0)[j]).pv := by rw [List.getElem?_map, List.getElem?_eq_getElem hj]; rfl
        simpa using this
      · have e := eraseIdx_map Act.pv (a0 :: left0) j
        rw [List.map_cons] at e
        refine ⟨left0.length, by simp, (a0 :: left0).eraseIdx j, found ++ [(a0 :: left0)[j]], ?_, ?_, ?_, ?_, ?_⟩
        · simp [← e]
        · rw [List.length_eraseIdx_of_lt hj]; simp
        · rw [List.append_assoc]
          exact (List.Perm.append_left found (perm_erase (a0 :: left0) j hj).symm).trans hp
        · simp; omega
        · simp; rw [← Nat.add_assoc]; exact hc2
    · simp [hlt]
      rw [← c_cons]
      exact fin (by simp at hlen; omega)

theorem ok_mapF {β : Type} {f : PV → M (Option PV)} {k g : β → PV} {ys : List β} {s : S} {Qs : List PV → S → Prop} (h : ∀ y ∈ ys, ∀ Qo : Option PV → S → Prop, Qo (some (g y)) s → Ok (f (k y)) s Qo) (q : Qs (ys.map g) s) : Ok (mapMx f (ys.map k)) s Qs := by
  induction ys generalizing Qs with
  | nil => exact q
  | cons y ys ih =>
    rw [List.map_cons]
    unfold mapMx
    rw [ok_bind]
    refine h y List.mem_cons_self _ ?_
    rw [ok_bind]
    exact ih (fun z hz => h z (List.mem_cons_of_mem _ hz)) q
theorem zipW2_map {α β : Type} {f : α → PV} {g : β → PV} : ∀ (xs : List α) (ys : List β), zipW2 (xs.map f) (ys.map g) = (xs.zip ys).map fun p => .tup [f p.1, g p.2]
  | [], _ => rfl
  | _ :: _, [] => rfl
  | x :: xs, y :: ys => by
    show PV.tup [f x, g y] :: zipW2 (xs.map f) (ys.map g) = _
    rw [zipW2_map xs ys]; rfl
theorem cut_one {α : Type} (xs : List α) : cut xs (some 1) none = xs.tail := by
  cases xs with
  | nil => rfl
  | cons x xs => exact (cut_drop (j := 1) (by simp)).trans rfl
def risesB (acts : List Act) : Bool := (acts.zip (acts.tail)).all fun p => actLt p.1 p.2
theorem rises_of : ∀ {acts : List Act}, acts.Pairwise (fun a b => actLt a b = true) → risesB acts = true
  | [], _ => rfl
  | [_], _ => rfl
  | a :: b :: r, h => by
    rw [List.pairwise_cons] at h
    have := rises_of h.2
    unfold risesB at this ⊢
    show (actLt a b && ((b :: r).zip ((b :: r).tail)).all fun p => actLt p.1 p.2) = true
    rw [this, h.1 b List.mem_cons_self]; rfl
theorem s_rises {Γ : Gam} {n : Nat} {acts : List Act} {v : PV} (hv : v = .lst (acts.map Act.pv) ∨ v = .tup (acts.map Act.pv)) {s : S} {Q : PV × Bool → S → Prop} (hl : acts.length ≤ lim) (q : Q (.bl (risesB acts), false) s) : Ok (run Γ n D_rises [v]) s Q := by
  refine ok_run rfl ?_
  have e1 : seqOf v = some (acts.map Act.pv) := by rcases hv with rfl | rfl <;> rfl
  have e2 : ∃ fr w, cutop v (some 1) none = some (w, fr) ∧ seqOf w = some ((acts.tail).map Act.pv) := by
    rcases hv with rfl | rfl
    · exact ⟨true, _, cut_lst, by rw [cut_one, List.map_tail]; rfl⟩
    · exact ⟨false, _, cut_tup, by rw [cut_one, List.map_tail]; rfl⟩
  obtain ⟨fr, w, e3, e4⟩ := e2
  have ez : zipW2 (acts.map Act.pv) ((acts.tail).map Act.pv) = (acts.zip (acts.tail)).map fun p => .tup [p.1.pv, p.2.pv] := zipW2_map _ _
  have hz : (zipW2 (acts.map Act.pv) ((acts.tail).map Act.pv)).length ≤ lim := by
    rw [ez, List.length_map, List.length_zip]; omega
  simp [D_rises, c_ret, getB, freezeAll, isOmit, e1, e3, e4]
  rw [← List.map_tail]
  refine ⟨hz, ?_⟩
  rw [ez]
  refine ok_mapF (g := fun p => .bl (actLt p.1 p.2)) (fun p _ Qo q => ?_) ?_
  · simp [o_compF, asgT_tup, asgT_name, asgTs_nil, asgTs_cons, getB, lt_acts]
    exact q
  · rw [all_map]
    simp
    exact q
theorem ok_mapPB {f : PV → M (Option PV)} {P : PV → PV → Prop} {Qs : List PV → S → Prop} (I : Nat → S → Prop) {B : Nat} {xs : List PV} {k : Nat} {s : S} (hB : k + xs.length ≤ B) (h0 : I k s) (h : ∀ x ∈ xs, ∀ k s, k < B → I k s → Ok (f x) s (fun o s' => ∃ y, o = some y ∧ P x y ∧ I (k + 1) s'))
    (q : ∀ ys s', ys.length = xs.length → (∀ p ∈ xs.zip ys, P p.1 p.2) → I (k + xs.length) s' → Qs ys s') : Ok (mapMx f xs) s Qs := by
  induction xs generalizing Qs s k with
  | nil => exact q [] s rfl (fun _ h => (nomatch h)) h0
  | cons x xs ih =>
    rw [List.length_cons] at hB
    unfold mapMx
    rw [ok_bind]
    refine (h x List.mem_cons_self k s (by omega) h0).mono fun o s' ⟨y, e, p, i⟩ => ?_
    subst e
    rw [ok_bind]
    refine ih (by omega) i (fun y hy => h y (List.mem_cons_of_mem _ hy)) fun ys s'' hl hp hi => ?_
    refine q (y :: ys) s'' (by rw [List.length_cons, hl, List.length_cons]) (fun p' hp' => ?_) (by rw [List.length_cons, show k + (xs.length + 1) = k + 1 + xs.length by omega]; exact hi)
    rw [List.zip_cons_cons, List.mem_cons] at hp'
    rcases hp' with rfl | hp'
    · exact p
    · exact hp p' hp'

def opv (p : Act × Int) : PV := .tup [p.1.pv, .int p.2]
@[simp] theorem ty_tupT {xs : List PV} : tyOf (.tup xs) .tuple = some true := rfl
theorem pricesOf {lo hi : Int} {acts : List Act} : ∀ {zs : List PV}, zs.length = (acts.map Act.pv).length → (∀ p ∈ (acts.map Act.pv).zip zs, ∃ i : Int, p.2 = .tup [p.1, .int i] ∧ lo ≤ i ∧ i ≤ hi) → ∃ ps : List (Act × Int), zs = ps.map opv ∧ ps.map (·.1) = acts ∧ ∀ p ∈ ps, lo ≤ p.2 ∧ p.2 ≤ hi := by
  induction acts with
  | nil =>
    intro zs hl _
    have : zs = [] := List.eq_nil_of_length_eq_zero hl
    subst this
    exact ⟨[], rfl, rfl, fun _ h => (nomatch h)⟩
  | cons a acts ih =>
    intro zs hl h
    cases zs with
    | nil => simp at hl
    | cons z zs =>
      obtain ⟨ps, e1, e2, e3⟩ := ih (zs := zs) (by simpa using hl) fun p hp => h p (List.mem_cons_of_mem _ hp)
      obtain ⟨i, e4, e5⟩ := h (a.pv, z) List.mem_cons_self
      have e4 : z = .tup [a.pv, .int i] := e4
      subst e4
      exact ⟨(a, i) :: ps, by rw [e1]; rfl, by rw [← e2]; rfl, fun p hp => (List.mem_cons.mp hp).elim (fun e => e ▸ e5) (e3 p)⟩

/-! ### boards by numbers -/
abbrev Ech := List Int × List Int
def exv (x : Ech) : PV := .tup [.tup (x.1.map .int), .tup (x.2.map .int)]
def brd (t : Nat) (xs : List Ech) : PV := .tup [.int t, .tup (xs.map exv)]
structure EOk (t : Nat) (x : Ech) : Prop where
  l1 : x.1.length = t
  l2 : x.2.length = t
  b1 : ∀ i ∈ x.1, 0 ≤ i ∧ i ≤ 5
  b2 : ∀ i ∈ x.2, 0 ≤ i ∧ i ≤ 5
  s : 0 < x.1.sum
structure BOk (t : Nat) (xs : List Ech) : Prop where
  t2 : 2 ≤ t
  t4 : t ≤ 4
  l : xs.length ≤ 6
  e : ∀ x ∈ xs, EOk t x
theorem exs_of' {t : Nat} : ∀ {es : List PV}, (∀ e ∈ es, exOk t e) → ∃ xs : List Ech, es = xs.map exv ∧ ∀ x ∈ xs, EOk t x
  | [], _ => ⟨[], rfl, fun _ h => (nomatch h)⟩
  | e :: es, h => by
    obtain ⟨a, g, rfl, h1, h2, h3, h4, h5⟩ := h e List.mem_cons_self
    obtain ⟨xs, rfl, h6⟩ := exs_of' fun x hx => h x (List.mem_cons_of_mem _ hx)
    exact ⟨(a, g) :: xs, rfl, fun x hx => (List.mem_cons.mp hx).elim (fun z => z ▸ ⟨h1, h2, h3, h4, h5⟩) (h6 x)⟩
theorem s_drawBoard {oo : List OV} {Γ : Gam} {n : Nat} (h : BoardOk Γ n) {ns : List Int} (h63 : ns.length ≤ 63) {s : S} {b : Nat} {Q : PV × Bool → S → Prop} (hs : cle oo b s) (hb : b + 1000 < 1000000)
    (q : ∀ (t : Nat) (xs : List Ech) s', BOk t xs → cle oo (b + 60) s' → Q (brd t xs, false) s') : Ok (run Γ n D__law_some_board [.scr ns, .cnt]) s Q :=
  s_someBoard h h63 hs hb fun t es s' h1 h2 h3 h4 hc => by
    obtain ⟨xs, rfl, h5⟩ := exs_of' h4
    exact q t xs s' ⟨h1, h2, by simpa using h3, h5⟩ hc
/-! ### all acts of a board -/
def foldE {α β : Type} (step : Nat → α → β → β) : Nat → List α → β → β
  | _, [], z => z
  | k, y :: ys, z => foldE step (k + 1) ys (step k y z)
theorem ok_forE {α β : Type} {Qc : Fl × Envi → S → Prop} {t : Tg} {b : Envi → M (Fl × Envi)} {f : α → PV} (step : Nat → α → β → β) (I : Nat → β → Envi → S → Prop) {B : Nat} {ys : List α} {k : Nat} {z : β} {env : Envi} {s : S} (hB : k + ys.length ≤ B) (h0 : I k z env s)
    (h : ∀ y ∈ ys, ∀ k z env s, k < B → I k z env s → Ok (ofO (asgT t (.tup [.int k, f y]) env)) s (fun env' s' => Ok (b env') s' (fun r s' => match r.1 with | .next => I (k + 1) (step k y z) r.2 s' | .ret x f => Qc (.ret x f, r.2) s')))
    (q : ∀ env s', I (k + ys.length) (foldE step k ys z) env s' → Qc (.next, env) s') : Ok (forN t b (enumW k (ys.map f)) env) s Qc := by
  induction ys generalizing env s k z with
  | nil => exact q env s h0
  | cons y ys ih =>
    rw [List.length_cons] at hB
    rw [List.map_cons]
    unfold enumW forN
    rw [ok_bind]
    refine (h y List.mem_cons_self k z env s (by omega) h0).mono fun env' s' hb => ?_
    rw [ok_bind]
    refine hb.mono fun r s'' hr => ?_
    obtain ⟨g, e⟩ := r
    cases g with
    | next => exact ih (by omega) hr (fun y hy => h y (List.mem_cons_of_mem _ hy)) fun e s' hi => q e s' (by rw [List.length_cons, show k + (ys.length + 1) = k + 1 + ys.length by omega]; exact hi)
    | ret x f => exact hr
def feeL (i j : Nat) (c : Int) : List Act := (List.range c.toNat).map fun a => .fee i j (a + 1)
def stepF (i : Nat) (j : Nat) (c : Int) (z : List Act) : List Act := z ++ feeL i j c
def stepA (i : Nat) (x : Ech) (z : List Act) : List Act := foldE (stepF i) 0 x.2 (z ++ [.bar i])
def allA (xs : List Ech) : List Act := foldE stepA 0 xs []
theorem foldF_len {i : Nat} : ∀ {g : List Int} {j : Nat} {z : List Act}, (∀ c ∈ g, c ≤ 5) → (foldE (stepF i) j g z).length ≤ z.length + 5 * g.length
  | [], _, z, _ => by unfold foldE; simp
  | c :: g, j, z, h => by
    unfold foldE
    have := foldF_len (i := i) (g := g) (j := j + 1) (z := stepF i j c z) fun x hx => h x (List.mem_cons_of_mem _ hx)
    have h5 := h c List.mem_cons_self
    simp [stepF, feeL] at this ⊢
    omega
theorem s_allActs {Γ : Gam} {n : Nat} {t : Nat} {xs : List Ech} (hx : BOk t xs) {s : S} {Q : PV × Bool → S → Prop} (q : Q (.lst ((actSort (allA xs)).map Act.pv), true) s) : Ok (run Γ n D__law_all_acts [brd t xs]) s Q := by
  refine ok_run rfl ?_
  simp only [D__law_all_acts, c_cons, c_asgN, o_lst, o_esN, nxt_next, List.map_cons, List.map_nil]
  simp [brd, freezeIt, getB, at?, ixN]
  refine ok_forE (f := exv) stepA (fun k z env s' => s' = s ∧ z.length ≤ 30 * k ∧ ∃ y2 y3 y4 y5 y6, env = [some (.tup [.int t, .tup (xs.map exv)], false), some (.lst (z.map Act.pv), true), y2, y3, y4, y5, y6]) (B := 6) (k := 0) (z := []) (by simpa using hx.l) ⟨rfl, by simp, _, _, _, _, _, rfl⟩ (fun x hxm k z env s' hk hI => ?_) (fun env s' hI => ?_)
  · obtain ⟨rfl, hz, y2, y3, y4, y5, y6, rfl⟩ := hI
    have he := hx.e x hxm
    simp [asgT_tup, asgT_name, asgTs_nil, asgTs_cons, exv]
    refine c_app (xs := z.map Act.pv) rfl (by simp; unfold lim; omega) ?_
    simp [getZ, freezeIt, getB, at?, ixN]
    refine ok_forE (f := PV.int) (stepF k) (fun j w env s'' => s'' = s' ∧ w.length ≤ 30 * k + 1 + 5 * j ∧ ∃ y4 y5 y6, env = [some (.tup [.int t, .tup (xs.map exv)], false), some (.lst (w.map Act.pv), true), some (.int k, false), some (.tup [.tup (x.1.map .int), .tup (x.2.map .int)], false), y4, y5, y6]) (B := 4) (k := 0) (z := z ++ [.bar k]) (by rw [he.l2]; simpa using hx.t4) ⟨rfl, by simp; omega, _, _, _, by simp [Act.pv]; rfl⟩ (fun c hc j w env s'' hj hI => ?_) (fun env s'' hI => ?_)
    · obtain ⟨rfl, hw, y4, y5, y6, rfl⟩ := hI
      have hc5 := he.b2 c hc
      have hr : rngOk 1 (c + 1) = true := by
        unfold rngOk lim
        simp only [Bool.and_eq_true, decide_eq_true_eq]
        omega
      have hrw : rangeW 1 (c + 1) = (List.range c.toNat).map fun a => .int (1 + (a : Nat)) := by
        unfold rangeW
        rw [show c + 1 - 1 = c by omega]
      simp only [asgT_tup, asgT_name, asgTs_nil, asgTs_cons, ok_some, List.set_cons_succ, List.set_cons_zero, c_cons]
      rw [c_ext (xs := w.map Act.pv) rfl]
      simp [getB, hr, hrw]
      refine ⟨by unfold lim; omega, ok_mapF (k := fun a : Nat => .int (1 + (a : Nat))) (g := fun a : Nat => (Act.fee k j (a + 1)).pv) (fun a _ Qo q => ?_) ?_⟩
      · simp [o_compF, asgT_name, getB, getZ]
        simpa [Act.pv, Int.add_comm] using q
      · have hl : w.length + c.toNat ≤ lim := by unfold lim; omega
        simp [hl]
        have e : List.map Act.pv (stepF k j c w) = w.map Act.pv ++ (List.range c.toNat).map fun a : Nat => (Act.fee k j (a + 1)).pv := by
          simp [stepF, feeL, Function.comp_def]
        refine ⟨by simp [stepF, feeL]; omega, ?_⟩
        exact e.symm
    · obtain ⟨rfl, hw, y4, y5, y6, rfl⟩ := hI
      have hl := foldF_len (i := k) (j := 0) (z := z ++ [.bar k]) (fun c hc => (he.b2 c hc).2)
      simp [he.l2] at hl
      have := hx.t4
      exact ⟨rfl, by unfold stepA; omega, _, _, _, _, _, rfl⟩
  · obtain ⟨rfl, hz, y2, y3, y4, y5, y6, rfl⟩ := hI
    simp [c_ret, getB, freezeAll]
    have := hx.l
    rw [sorted_acts (by unfold lim; unfold allA at *; simp at hz; omega)]
    simp
    exact q

/-! ### which acts a board has -/
def feesL (i : Nat) : Nat → List Int → List Act
  | _, [] => []
  | j, c :: g => feeL i j c ++ feesL i (j + 1) g
def accL : Nat → List Ech → List Act
  | _, [] => []
  | i, x :: xs => (.bar i :: feesL i 0 x.2) ++ accL (i + 1) xs
theorem foldF_eq {i : Nat} : ∀ (g : List Int) (j : Nat) (z : List Act), foldE (stepF i) j g z = z ++ feesL i j g
  | [], _, z => by unfold foldE feesL; simp
  | c :: g, j, z => by unfold foldE feesL; rw [foldF_eq g]; unfold stepF; rw [List.append_assoc]
theorem foldA_eq : ∀ (xs : List Ech) (k : Nat) (z : List Act), foldE stepA k xs z = z ++ accL k xs
  | [], _, z => by unfold foldE accL; simp
  | x :: xs, k, z => by unfold foldE accL; rw [foldA_eq xs]; unfold stepA; rw [foldF_eq]; simp
theorem allA_eq (xs : List Ech) : allA xs = accL 0 xs := by unfold allA; rw [foldA_eq]; rfl
theorem mem_feeL {i j : Nat} {c : Int} {a : Act} : a ∈ feeL i j c ↔ ∃ m : Nat, 1 ≤ m ∧ (m : Int) ≤ c ∧ a = .fee i j m := by
  unfold feeL
  rw [List.mem_map]
  constructor
  · rintro ⟨k, h, rfl⟩
    rw [List.mem_range] at h
    exact ⟨k + 1, by omega, by omega, rfl⟩
  · rintro ⟨m, h1, h2, rfl⟩
    exact ⟨m - 1, by rw [List.mem_range]; omega, by rw [Nat.sub_add_cancel h1]⟩
theorem mem_feesL {i : Nat} {a : Act} : ∀ {g : List Int} {j : Nat}, a ∈ feesL i j g ↔ ∃ (k : Nat) (c : Int) (m : Nat), g[k]? = some c ∧ 1 ≤ m ∧ (m : Int) ≤ c ∧ a = .fee i (j + k) m
  | [], j => by simp [feesL]
  | c :: g, j => by
    unfold feesL
    rw [List.mem_append, mem_feeL, mem_feesL]
    constructor
    · rintro (⟨m, h1, h2, h3⟩ | ⟨k, c', m, h0, h1, h2, h3⟩)
      · exact ⟨0, c, m, rfl, h1, h2, h3⟩
      · exact ⟨k + 1, c', m, h0, h1, h2, by rw [h3]; congr 1; omega⟩
    · rintro ⟨k, c', m, h0, h1, h2, h3⟩
      cases k with
      | zero => cases h0; exact .inl ⟨m, h1, h2, h3⟩
      | succ k => exact .inr ⟨k, c', m, h0, h1, h2, by rw [h3]; congr 1; omega⟩
theorem mem_accL {a : Act} : ∀ {xs : List Ech} {i : Nat}, a ∈ accL i xs ↔ ∃ (k : Nat) (x : Ech), xs[k]? = some x ∧ (a = .bar (i + k) ∨ a ∈ feesL (i + k) 0 x.2)
  | [], i => by simp [accL]
  | x :: xs, i => by
    unfold accL
    rw [List.mem_append, List.mem_cons, mem_accL]
    constructor
    · rintro (h | ⟨k, y, h0, h⟩)
      · exact ⟨0, x, rfl, h⟩
      · exact ⟨k + 1, y, h0, by rw [show i + (k + 1) = i + 1 + k by omega]; exact h⟩
    · rintro ⟨k, y, h0, h⟩
      cases k with
      | zero => cases h0; exact .inl h
      | succ k => exact .inr ⟨k, y, h0, by rw [show i + 1 + k = i + (k + 1) by omega]; exact h⟩
theorem nd_feeL {i j : Nat} {c : Int} : (feeL i j c).Nodup := by
  unfold feeL
  refine List.Pairwise.map _ (fun a b h => ?_) (List.nodup_range (n := c.toNat))
  intro e
  injection e
  omega
theorem nd_feesL {i : Nat} : ∀ {g : List Int} {j : Nat}, (feesL i j g).Nodup
  | [], j => by simp [feesL]
  | c :: g, j => by
    unfold feesL
    refine List.nodup_append.mpr ⟨nd_feeL, nd_feesL, fun a ha b hb e => ?_⟩
    obtain ⟨m, _, _, rfl⟩ := mem_feeL.mp ha
    obtain ⟨k, _, _, _, _, _, rfl⟩ := mem_feesL.mp hb
    injection e
    omega
theorem nd_accL : ∀ {xs : List Ech} {i : Nat}, (accL i xs).Nodup
  | [], i => by simp [accL]
  | x :: xs, i => by
    unfold accL
    refine List.nodup_append.mpr ⟨List.nodup_cons.mpr ⟨fun h => ?_, nd_feesL⟩, nd_accL, fun a ha b hb e => ?_⟩
    · obtain ⟨_, _, _, _, _, _, e⟩ := mem_feesL.mp h
      cases e
    · subst e
      obtain ⟨k, y, _, h⟩ := mem_accL.mp hb
      rw [List.mem_cons] at ha
      rcases ha with rfl | ha
      · rcases h with h | h
        · injection h; omega
        · obtain ⟨_, _, _, _, _, _, e⟩ := mem_feesL.mp h
          cases e
      · obtain ⟨_, _, _, _, _, _, rfl⟩ := mem_feesL.mp ha
        rcases h with h | h
        · cases h
        · obtain ⟨_, _, _, _, _, _, e⟩ := mem_feesL.mp h
          injection e
          omega
def actOk (xs : List Ech) : Act → Bool
  | .bar n => decide (n < xs.length)
  | .fee n j m => match xs[n]? with
    | some x => (match x.2[j]? with | some c => decide (1 ≤ m) && decide ((m : Int) ≤ c) | none => false)
    | none => false
theorem mem_allA {xs : List Ech} {a : Act} : a ∈ allA xs ↔ actOk xs a = true := by
  rw [allA_eq, mem_accL]
  constructor
  · rintro ⟨k, x, h0, h⟩
    rcases h with rfl | h
    · simp [actOk]
      exact (List.getElem?_eq_some_iff.mp h0).1
    · obtain ⟨j, c, m, h1, h2, h3, rfl⟩ := mem_feesL.mp h
      simp [actOk, h0, h1, h2, h3]
  · intro h
    cases a with
    | bar n =>
      have h : n < xs.length := by simpa [actOk] using h
      exact ⟨n, xs[n], List.getElem?_eq_getElem h, .inl (by rw [Nat.zero_add])⟩
    | fee n j m =>
      simp only [actOk] at h
      split at h
      · rename_i x hx
        split at h
        · rename_i c hc
          simp only [Bool.and_eq_true, decide_eq_true_eq] at h
          exact ⟨n, x, hx, .inr (mem_feesL.mpr ⟨j, c, m, hc, h.1, h.2, by rw [Nat.zero_add, Nat.zero_add]⟩)⟩
        · cases h
      · cases h
theorem allA_nodup (xs : List Ech) : (allA xs).Nodup := by rw [allA_eq]; exact nd_accL
/-- the sorted list of all acts -/
def actsOf (xs : List Ech) : List Act := actSort (allA xs)
theorem mem_actsOf {xs : List Ech} {a : Act} : a ∈ actsOf xs ↔ actOk xs a = true := by unfold actsOf; rw [(actSort_perm _).mem_iff, mem_allA]
theorem actsOf_lt (xs : List Ech) : (actsOf xs).Pairwise fun a b => actLt a b = true := actSort_lt (allA_nodup xs)
theorem nodup_of_lt {acts : List Act} (h : acts.Pairwise fun a b => actLt a b = true) : acts.Nodup := h.imp fun {a b} z e => by subst e; rw [actLt_irrefl] at z; cases z
theorem feesL_len {i : Nat} : ∀ {g : List Int} {j : Nat}, (∀ c ∈ g, c ≤ 5) → (feesL i j g).length ≤ 5 * g.length
  | [], _, _ => by simp [feesL]
  | c :: g, j, h => by
    unfold feesL
    have := feesL_len (i := i) (j := j + 1) (g := g) fun x hx => h x (List.mem_cons_of_mem _ hx)
    have h5 := h c List.mem_cons_self
    simp [feeL]
    omega
theorem accL_len {t : Nat} (ht : t ≤ 4) : ∀ {xs : List Ech} {i : Nat}, (∀ x ∈ xs, EOk t x) → (accL i xs).length ≤ 21 * xs.length
  | [], _, _ => by simp [accL]
  | x :: xs, i, h => by
    unfold accL
    have h1 := accL_len ht (i := i + 1) (xs := xs) fun y hy => h y (List.mem_cons_of_mem _ hy)
    have he := h x List.mem_cons_self
    have h2 := feesL_len (i := i) (j := 0) (g := x.2) fun c hc => (he.b2 c hc).2
    rw [he.l2] at h2
    simp
    omega
theorem actsOf_len {t : Nat} {xs : List Ech} (h : BOk t xs) : (actsOf xs).length ≤ 126 := by
  unfold actsOf
  rw [(actSort_perm _).length_eq, allA_eq]
  have := accL_len h.t4 (i := 0) h.e
  have := h.l
  omega

/-! ### acts judged -/
theorem eq_bar : cmpop .eq (.str "bar") (.str "bar") = some true := by kernel_rfl
theorem eq_feebar : cmpop .eq (.str "fee") (.str "bar") = some false := by kernel_rfl
theorem ne_fee : cmpop .ne (.str "fee") (.str "fee") = some false := by kernel_rfl
@[simp] theorem ty_strS {x : Str} : tyOf (.str x) .str = some true := rfl
theorem s_isactA {Γ Γ0 : Gam} {n : Nat} (h0 : Γ.fn 0 = some (run Γ0 n D_is_integer)) {t : Nat} {xs : List Ech} (hx : BOk t xs) {a : Act} {s : S} {Q : PV × Bool → S → Prop} (q : Q (.bl (actOk xs a), false) s) : Ok (run Γ n D_is_act [brd t xs, a.pv]) s Q := by
  refine ok_run rfl ?_
  cases a with
  | bar i =>
    simp [D_is_act, brd, Act.pv, getB, at?, ixN, tyOf, h0, bor, isOwned]
    refine s_isint rfl ?_
    by_cases h : i < xs.length
    · simp [isI, show (i : Int) ≤ xs.length - 1 by omega, getB, eq_bar, at?, ixN, c_ret, freezeAll]
      simpa [actOk, h] using q
    · simp [isI, show ¬ (i : Int) ≤ xs.length - 1 by omega, c_ret, freezeAll]
      simpa [actOk, h] using q
  | fee i j m =>
    simp [D_is_act, brd, Act.pv, getB, at?, ixN, tyOf, h0, bor, isOwned]
    refine s_isint rfl ?_
    by_cases h : i < xs.length
    · have he := hx.e xs[i] (List.getElem_mem _)
      simp [isI, show (i : Int) ≤ xs.length - 1 by omega, getB, eq_feebar, ne_fee, at?, ixN, h0, bor, isOwned]
      refine s_isint rfl ?_
      by_cases h2 : j < t
      · have h3 : j < xs[i].2.length := by rw [he.l2]; exact h2
        simp [isI, show (j : Int) ≤ t - 1 by omega, getB, at?, ixN, c_ret, freezeAll, h0, bor, isOwned, h, exv, h3]
        refine s_isint rfl ?_
        have e1 : decide ((1 : Int) ≤ (m : Int)) = decide (1 ≤ m) := by
          by_cases hm : 1 ≤ m
          · rw [decide_eq_true hm, decide_eq_true (by omega)]
          · rw [decide_eq_false hm, decide_eq_false (by omega)]
        simp [actOk, h, h3, isI] at q ⊢
        rw [e1]
        exact q
      · simp [isI, show ¬ (j : Int) ≤ t - 1 by omega, c_ret, freezeAll]
        have h3 : ¬ j < xs[i].2.length := by rw [he.l2]; exact h2
        simpa [actOk, h, h3] using q
    · simp [isI, show ¬ (i : Int) ≤ xs.length - 1 by omega, c_ret, freezeAll]
      simpa [actOk, h] using q

theorem exOk_exv {t : Nat} {x : Ech} (h : EOk t x) : exOk t (exv x) := ⟨x.1, x.2, rfl, h.l1, h.l2, h.b1, h.b2, h.s⟩
theorem exOks {t : Nat} {xs : List Ech} (h : BOk t xs) : ∀ e ∈ xs.map exv, exOk t e := fun e he => by
  obtain ⟨x, hx, rfl⟩ := List.mem_map.mp he
  exact exOk_exv (h.e x hx)
structure NeedOk (Γ : Gam) (n : Nat) : Prop where
  h : ∃ Γ13 Γ3 Γ2 Γ1 Γ0 Γ0' : Gam, Γ.fn 13 = some (run Γ13 n D_need_board) ∧ Γ13.fn 3 = some (run Γ3 n D_stands) ∧ Γ3.fn 0 = some (run Γ0' n D_is_integer) ∧ Γ3.fn 2 = some (run Γ2 n D_is_exchange) ∧ Γ2.fn 1 = some (run Γ1 n D_are_numbers) ∧ Γ1.fn 0 = some (run Γ0 n D_is_integer)
theorem o_need {Γ : Gam} {n : Nat} (h : NeedOk Γ n) {t : Nat} {xs : List Ech} (hx : BOk t xs) {s : S} {Q : PV × Bool → S → Prop} (q : Q (.non, false) s) : Ok (ofO (Γ.fn 13)) s (fun g s => Ok (g [brd t xs]) s Q) := by
  obtain ⟨Γ13, Γ3, Γ2, Γ1, Γ0, Γ0', e1, e2, e3, e4, e5, e6⟩ := h.h
  rw [e1]
  refine ok_run rfl ?_
  simp [D_need_board, getB, bor, isOwned, e2]
  refine s_stands e3 e4 e5 e6 (sml_board hx.t4 (by simpa using hx.l) (exOks hx)) ?_
  have e : stB' (brd t xs) = true := stB_board ⟨hx.t2, hx.t4⟩ (by simpa using hx.l) (exOks hx)
  rw [e]
  simp
  exact q
def actsB (xs : List Ech) (acts : List Act) : Bool := decide (acts.length ≤ 10) && acts.all (actOk xs) && risesB acts
structure StandA (Γ : Gam) (n : Nat) : Prop where
  h : ∃ Γ71 Γ0 Γ70 : Gam, Γ.fn 71 = some (run Γ71 n D_is_act) ∧ Γ71.fn 0 = some (run Γ0 n D_is_integer) ∧ Γ.fn 70 = some (run Γ70 n D_rises)
theorem s_actsStand {Γ : Gam} {n : Nat} (h : StandA Γ n) {t : Nat} {xs : List Ech} (hx : BOk t xs) {acts : List Act} (hl : acts.length ≤ 10000) {s : S} {Q : PV × Bool → S → Prop} (q : Q (.bl (actsB xs acts), false) s) : Ok (run Γ n D_acts_stand [brd t xs, .tup (acts.map Act.pv)]) s Q := by
  obtain ⟨Γ71, Γ0, Γ70, e1, e2, e3⟩ := h.h
  refine ok_run rfl ?_
  by_cases h10 : acts.length ≤ 10
  · have h10' : ¬ (10 < (acts.length : Int)) := by omega
    simp [D_acts_stand, getB, tyOf, h10', show acts.length ≤ lim by unfold lim; omega]
    refine ok_mapF (g := fun a => .bl (actOk xs a)) (fun a _ Qo q => ?_) ?_
    · simp [o_compF, asgT_name, getB, bor, isOwned, e1]
      exact s_isactA e2 hx q
    · simp
      cases ha : acts.all (actOk xs)
      · simp [actsB, ha] at q
        have ha2 : ∃ x, x ∈ acts ∧ actOk xs x = false := by simpa using ha
        rw [if_pos ha2, c_ret (by simp)]
        simp
        exact q
      · have ha1 : ∀ a ∈ acts, actOk xs a = true := List.all_eq_true.mp ha
        have ha2 : ¬ ∃ x, x ∈ acts ∧ actOk xs x = false := fun ⟨x, h1, h2⟩ => by rw [ha1 x h1] at h2; cases h2
        simp [actsB, ha, h10] at q
        rw [if_neg ha2, c_ret (by simp)]
        simp [getB, freezeAll, bor, isOwned, e3]
        exact s_rises (.inr rfl) (by unfold lim; omega) (by simpa using q)
  · have h10' : 10 < (acts.length : Int) := by omega
    simp [D_acts_stand, getB, tyOf, h10', c_ret, freezeAll]
    simpa [actsB, h10] using q
theorem actsB_ok {xs : List Ech} {acts : List Act} (h1 : ∀ a ∈ acts, actOk xs a = true) (h2 : acts.Pairwise fun a b => actLt a b = true) : actsB xs acts = decide (acts.length ≤ 10) := by
  unfold actsB
  rw [List.all_eq_true.mpr h1, rises_of h2]
  simp

/-! ### drawn acts -/
structure SomeActs (Γ : Gam) (n : Nat) : Prop where
  d : DrawOk Γ n
  h62 : ∃ Γ62, Γ.fn 62 = some (run Γ62 n D__law_all_acts)
  h61 : ∃ Γ61, Γ.fn 61 = some (run Γ61 n D__law_some_of) ∧ DrawOk Γ61 n
theorem s_someActs {oo : List OV} {Γ : Gam} {n : Nat} (h : SomeActs Γ n) (hn : 200 < n) {ns : List Int} (h63 : ns.length ≤ 63) {t : Nat} {xs : List Ech} (hx : BOk t xs) {m : Nat} {s : S} {b : Nat} {Q : PV × Bool → S → Prop} (hs : cle oo b s) (hb : b + 1000 < 900000)
    (q : ∀ (ys : List Act) s', (∀ a ∈ ys, actOk xs a = true) → ys.Pairwise (fun a b => actLt a b = true) → ys.length ≤ m → ys.length ≤ 126 → cle oo (b + 130) s' → Q (.tup (ys.map Act.pv), false) s') : Ok (run Γ n D__law_some_acts [.scr ns, .cnt, brd t xs, .int m]) s Q := by
  obtain ⟨Γ62, e62⟩ := h.h62
  obtain ⟨Γ61, e61, d61⟩ := h.h61
  have hal := actsOf_len hx
  refine ok_run rfl ?_
  simp [D__law_some_acts, getB, bor, isOwned, e62]
  refine s_allActs hx ?_
  simp [c_ret, getB, freezeAll]
  rw [show actSort (allA xs) = actsOf xs from rfl, ne_nil_acts]
  simp [e61]
  by_cases h0 : actsOf xs = []
  · simp [h0]
    exact q [] s (by simp) .nil (by simp) (by simp) (cle_mono hs (by omega))
  · simp [h0, getB, getZ, bor, isOwned]
    refine o_draw h.d h63 (by omega) hs (by omega) fun d s1 d1 d2 hc1 => ?_
    obtain ⟨c, rfl⟩ : ∃ c : Nat, d = c := ⟨d.toNat, by omega⟩
    refine s_someOf d61 h63 (.inl rfl) (nodup_of_lt (actsOf_lt xs)) hc1 (by omega) (by omega) (by omega) fun ys s2 hy1 hy2 hy3 hc2 => ?_
    rw [drp_cle hs hc2]
    exact q ys s2 (fun a ha => mem_actsOf.mp (hy1 a ha)) hy2 (by omega) (by omega) (cle_mono hc2 (by omega))

theorem ok_forI {Qc : Fl × Envi → S → Prop} {t : Tg} {f : Envi → M (Fl × Envi)} (I : Nat → Envi → S → Prop) {xs ys : List PV} {k : Nat} {env : Envi} {s : S} (hk : k ≤ xs.length) (hy : ys = xs.drop k) (h0 : I k env s)
    (h : ∀ k x env s, xs[k]? = some x → I k env s → Ok (ofO (asgT t x env)) s (fun env' s' => Ok (f env') s' (fun r s' => match r.1 with | .next => I (k + 1) r.2 s' | .ret x f => Qc (.ret x f, r.2) s'))) (q : ∀ env s', I xs.length env s' → Qc (.next, env) s') :
    Ok (forN t f ys env) s Qc := by
  induction ys generalizing env s k with
  | nil =>
    have : xs.length ≤ k := by
      have := congrArg List.length hy
      rw [List.length_drop] at this
      simp at this
      omega
    have e : k = xs.length := by omega
    subst e
    exact q env s h0
  | cons x ys ih =>
    have hlt : k < xs.length := by
      have := congrArg List.length hy
      rw [List.length_drop] at this
      simp at this
      omega
    rw [List.drop_eq_getElem_cons hlt] at hy
    have e1 : x = xs[k] := (List.cons.inj hy).1
    have e2 : ys = xs.drop (k + 1) := (List.cons.inj hy).2
    unfold forN
    rw [ok_bind]
    refine (h k x env s (by rw [e1]; exact List.getElem?_eq_getElem hlt) h0).mono fun env' s' hb => ?_
    rw [ok_bind]
    refine hb.mono fun r s'' hr => ?_
    obtain ⟨g, e⟩ := r
    cases g with
    | next => exact ih hlt e2 hr
    | ret x f => exact hr
theorem enumW_get : ∀ (ys : List PV) (a k : Nat), (enumW a ys)[k]? = (ys[k]?).map fun y => .tup [.int ((a + k : Nat) : Int), y]
  | [], _, _ => by simp [enumW]
  | y :: ys, a, 0 => rfl
  | y :: ys, a, k + 1 => by
    show (enumW (a + 1) ys)[k]? = _
    rw [enumW_get ys (a + 1) k, show a + 1 + k = a + (k + 1) by omega]
    rfl
theorem enumW_length : ∀ (ys : List PV) (a : Nat), (enumW a ys).length = ys.length
  | [], _ => rfl
  | y :: ys, a => by unfold enumW; rw [List.length_cons, enumW_length ys, List.length_cons]

/-! ### a drawn case: a board and offers -/
structure CaseOk (Γ : Gam) (n : Nat) : Prop where
  d : DrawOk Γ n
  h11 : ∃ Γ11, Γ.fn 11 = some (run Γ11 n D__law_some_board) ∧ BoardOk Γ11 n
  h62 : ∃ Γ62, Γ.fn 62 = some (run Γ62 n D__law_all_acts)
  h61 : ∃ Γ61, Γ.fn 61 = some (run Γ61 n D__law_some_of) ∧ DrawOk Γ61 n
@[simp] theorem c_brd1 {t : Nat} {xs : List Ech} : idxop (brd t xs) (.int 1) = some (.tup (xs.map exv)) := rfl
@[simp] theorem c_brd0 {t : Nat} {xs : List Ech} : idxop (brd t xs) (.int 0) = some (.int t) := rfl
theorem cut6 {α : Type} (xs : List α) : cut xs none (some 6) = xs.take 6 := by
  show (xs.drop 0).take (Nat.min 6 xs.length - 0) = xs.take 6
  rw [List.drop_zero, Nat.sub_zero, List.take_eq_take_iff]
  show min (min 6 xs.length) xs.length = min 6 xs.length
  omega
def fillT (t : Nat) : List Int := List.replicate (t - 2) 0
theorem mul_fill {t : Nat} (h2 : 2 ≤ t) (h4 : t ≤ 4) : binop .mul (.tup [.int 0]) (.int ((t : Int) - 2)) = some (.tup ((fillT t).map .int), false) := by
  obtain rfl | rfl | rfl : t = 2 ∨ t = 3 ∨ t = 4 := by omega
  · rfl
  · rfl
  · rfl
theorem fill_sum (t : Nat) : (fillT t).sum = 0 := by unfold fillT; simp
theorem more_ok {t : Nat} (h2 : 2 ≤ t) {a b c d : Int} (ha : 0 ≤ a ∧ a ≤ 5) (hb : 0 ≤ b ∧ b ≤ 5) (hc : 0 ≤ c ∧ c ≤ 5) (hd : 0 ≤ d ∧ d ≤ 5) (hs : 0 < a + b) : EOk t ([a, b] ++ fillT t, [c, d] ++ fillT t) := by
  have hf : ∀ i ∈ fillT t, i = 0 := fun i hi => (List.mem_replicate.mp hi).2
  refine ⟨by simp [fillT]; omega, by simp [fillT]; omega, fun i hi => ?_, fun i hi => ?_, ?_⟩
  · simp at hi
    rcases hi with rfl | rfl | hi
    · exact ha
    · exact hb
    · rw [hf i hi]; omega
  · simp at hi
    rcases hi with rfl | rfl | hi
    · exact hc
    · exact hd
    · rw [hf i hi]; omega
  · simp [fill_sum]; omega
def caseCB : Cmds := (.cons (.asgz 4 (.bin .add (.int 1) (.call 7 (.cons (.var 0) (.cons (.var 1) (.cons (.int 3) .nil)))))) (.cons (.asg (.name 5) (.tup (.cons (.tup (.cons (.tup (.cons (.var 4) (.cons (.int 0) .nil))) (.cons (.tup (.cons (.int 0) (.cons (.bin .add (.int 1) (.call 7 (.cons (.var 0) (.cons (.var 1) (.cons (.int 4) .nil))))) .nil))) .nil))) (.cons (.tup (.cons (.tup (.cons (.int 0) (.cons (.bin .add (.int 1) (.call 7 (.cons (.var 0) (.cons (.var 1) (.cons (.int 2) .nil))))) .nil))) (.cons (.tup (.cons (.var 4) (.cons (.int 0) .nil))) .nil))) .nil)))) (.cons (.asgz 6 (.bin .mul (.tup (.cons (.int 0) .nil)) (.bin .sub (.idx (.var 3) (.int 0)) (.int 2)))) (.cons (.asg (.name 5) (.blt .tuple (.cons (.comp (.tup (.cons (.bin .add (.var 10) (.var 6)) (.cons (.bin .add (.var 11) (.var 6)) .nil))) (.tup (.cons (.name 10) (.cons (.name 11) .nil))) (.val (.var 5)) .nil) .nil))) (.cons (.asg (.name 3) (.tup (.cons (.idx (.var 3) (.int 0)) (.cons (.sli (.bin .add (.idx (.var 3) (.int 1)) (.var 5)) .omit (.int 6)) .nil)))) .nil)))))
theorem s_someCase {Γ : Gam} {n : Nat} (h : CaseOk Γ n) (hn : 200 < n) {ns : List Int} (h63 : ns.length ≤ 63) {m : Nat} (hm : 1 ≤ m) {s : S} {b : Nat} {oo : List OV} {Q : PV × Bool → S → Prop} (hs : cle oo b s) (hb : b + 2000 < 900000)
    (q : ∀ (t : Nat) (xs : List Ech) (ps : List (Act × Int)) s', BOk t xs → (∀ p ∈ ps, actOk xs p.1 = true ∧ 1 ≤ p.2 ∧ p.2 ≤ 4) → (ps.map (·.1)).Pairwise (fun a b => actLt a b = true) → ps.length ≤ m → cle oo (b + 500) s' → Q (.tup [brd t xs, .tup (ps.map opv)], false) s') : Ok (run Γ n D__law_some_case [.scr ns, .cnt, .int m]) s Q := by
  obtain ⟨Γ11, e11, b11⟩ := h.h11
  obtain ⟨Γ62, e62⟩ := h.h62
  obtain ⟨Γ61, e61, d61⟩ := h.h61
  refine ok_run rfl ?_
  show Ok (exCs Γ n (dropC 0 D__law_some_case.body) [some (.scr ns, false), some (.cnt, false), some (.int m, false), none, none, none, none, none, none, none, none, none]) _ _
  refine ok_step (c := (.asgz 3 (.call 11 (.cons (.var 0) (.cons (.var 1) .nil))))) rfl ?_
  simp [getB, bor, isOwned, e11]
  refine s_drawBoard b11 h63 hs (by omega) fun t xs0 s1 hx0 hc1 => ?_
  simp
  have rest : ∀ (xs : List Ech) (y4 y5 y6 : Slt) (s2 : S), BOk t xs → cle oo (b + 70) s2 → Ok (exCs Γ n (dropC 2 D__law_some_case.body) [some (.scr ns, false), some (.cnt, false), some (.int m, false), some (brd t xs, false), y4, y5, y6, none, none, none, none, none]) s2 (fun r s' => match r.1 with | .ret x f => Q (x, f) (drp s.ob.length x s') | .next => Q (.non, false) (drp s.ob.length .non s')) := fun xs y4 y5 y6 s2 hx hc2 => by
    have hal := actsOf_len hx
    refine ok_step (c := (.par [7, 8] (.cons (.call 62 (.cons (.var 3) .nil)) (.cons (.tup .nil) .nil)))) rfl ?_
    simp [getB, bor, isOwned, e62]
    refine s_allActs hx ?_
    rw [show actSort (allA xs) = actsOf xs from rfl]
    simp [putRs]
    refine ok_step (c := (.frz [7])) rfl ?_
    simp [frzAt, freeze1]
    have fin : ∀ (ys : List Act) (s3 : S), (∀ a ∈ ys, actOk xs a = true) → ys.Pairwise (fun a b => actLt a b = true) → ys.length ≤ m → ys.length ≤ 126 → cle oo (b + 300) s3 → Ok (exCs Γ n (dropC 5 D__law_some_case.body) [some (.scr ns, false), some (.cnt, false), some (.int m, false), some (brd t xs, false), y4, y5, y6, some (.lst ((actsOf xs).map Act.pv), false), some (.tup (ys.map Act.pv), false), none, none, none]) s3 (fun r s' => match r.1 with | .ret x f => Q (x, f) (drp s.ob.length x s') | .next => Q (.non, false) (drp s.ob.length .non s')) := fun ys s3 hy1 hy2 hy3 hy4 hc3 => by
      refine ok_step (c := (.ret (.tup (.cons (.var 3) (.cons (.blt .tuple (.cons (.comp (.tup (.cons (.var 9) (.cons (.bin .add (.int 1) (.call 7 (.cons (.var 0) (.cons (.var 1) (.cons (.int 4) .nil))))) .nil))) (.name 9) (.val (.var 8)) .nil) .nil)) .nil))))) rfl ?_
      rw [c_ret (by simp)]
      simp [getB, getZ, freezeAll]
      refine ⟨by unfold lim; omega, ?_⟩
      refine ok_mapPB (P := fun x y => ∃ i : Int, y = .tup [x, .int i] ∧ 1 ≤ i ∧ i ≤ 4) (fun j s => cle oo (b + 300 + j) s) (B := 126) (k := 0) (by simpa using hy4) hc3 (fun x hx k s hkl hk => ?_) (fun zs s4 hz1 hz2 hc4 => ?_)
      · simp [o_compF, asgT, getB, getZ, bor, isOwned]
        refine o_draw h.d h63 (by decide) hk (by omega) fun d s' d1 d2 hc => ?_
        simp
        exact ⟨by omega, hc⟩
      · obtain ⟨ps, rfl, hps, hpp⟩ := pricesOf hz1 fun p hp => hz2 p hp
        subst hps
        rw [drp_cle hs hc4]
        refine q t xs ps s4 hx (fun p hp => ⟨hy1 _ (List.mem_map_of_mem hp), hpp p hp⟩) hy2 (by simpa using hy3) (cle_mono hc4 (by simp at hy4 ⊢; omega))
    refine ok_step (c := (.ifs (.cmp .ne (.var 7) (.lst .nil)) (.cons (.asgz 8 (.call 61 (.cons (.var 0) (.cons (.var 1) (.cons (.var 7) (.cons (.bin .sub (.var 2) (.call 7 (.cons (.var 0) (.cons (.var 1) (.cons (.int 2) .nil))))) .nil)))))) .nil) .nil)) rfl ?_
    simp only [c_ifs, o_cmp, o_varT, o_lst, o_esN]
    simp [getB, ne_nil_acts]
    by_cases h0 : actsOf xs = []
    · simp [h0]
      have := fin [] s2 (by simp) .nil (by simp) (by simp) (cle_mono hc2 (by omega))
      simpa [h0] using this
    · simp [h0, getB, getZ, bor, isOwned, e61]
      refine o_draw h.d h63 (by decide) hc2 (by omega) fun d s3 d1 d2 hc3 => ?_
      obtain ⟨c, hc⟩ : ∃ c : Nat, (m : Int) - d = c := ⟨((m : Int) - d).toNat, by omega⟩
      simp [hc]
      refine s_someOf d61 h63 (.inl rfl) (nodup_of_lt (actsOf_lt xs)) hc3 (by omega) (by omega) (by omega) fun ys s4 hy1 hy2 hy3 hc4 => ?_
      exact fin ys s4 (fun a ha => mem_actsOf.mp (hy1 a ha)) hy2 (by omega) (by omega) (cle_mono hc4 (by omega))
  refine ok_step (c := (.ifs (.cmp .gt (.call 7 (.cons (.var 0) (.cons (.var 1) (.cons (.int 3) .nil)))) (.int 0)) caseCB .nil)) rfl ?_
  simp [getB, bor, isOwned]
  refine o_draw h.d h63 (by decide) hc1 (by omega) fun d s2 d1 d2 hc2 => ?_
  simp
  split
  · show Ok (exCs Γ n (dropC 0 caseCB) _) _ _
    refine ok_step (c := (.asgz 4 (.bin .add (.int 1) (.call 7 (.cons (.var 0) (.cons (.var 1) (.cons (.int 3) .nil))))))) rfl ?_
    simp [getB, getZ, bor, isOwned]
    refine o_draw h.d h63 (by decide) hc2 (by omega) fun p s3 p1 p2 hc3 => ?_
    simp
    refine ok_step (c := (.asg (.name 5) (.tup (.cons (.tup (.cons (.tup (.cons (.var 4) (.cons (.int 0) .nil))) (.cons (.tup (.cons (.int 0) (.cons (.bin .add (.int 1) (.call 7 (.cons (.var 0) (.cons (.var 1) (.cons (.int 4) .nil))))) .nil))) .nil))) (.cons (.tup (.cons (.tup (.cons (.int 0) (.cons (.bin .add (.int 1) (.call 7 (.cons (.var 0) (.cons (.var 1) (.cons (.int 2) .nil))))) .nil))) (.cons (.tup (.cons (.var 4) (.cons (.int 0) .nil))) .nil))) .nil))))) rfl ?_
    simp [getB, getZ, bor, isOwned]
    refine o_draw h.d h63 (by decide) hc3 (by omega) fun u s4 u1 u2 hc4 => ?_
    simp [getB, getZ, bor, isOwned]
    refine o_draw h.d h63 (by decide) hc4 (by omega) fun v s5 v1 v2 hc5 => ?_
    simp
    refine ok_step (c := (.asgz 6 (.bin .mul (.tup (.cons (.int 0) .nil)) (.bin .sub (.idx (.var 3) (.int 0)) (.int 2))))) rfl ?_
    simp [getB, getZ, mul_fill hx0.t2 hx0.t4]
    refine ok_step (c := (.asg (.name 5) (.blt .tuple (.cons (.comp (.tup (.cons (.bin .add (.var 10) (.var 6)) (.cons (.bin .add (.var 11) (.var 6)) .nil))) (.tup (.cons (.name 10) (.cons (.name 11) .nil))) (.val (.var 5)) .nil) .nil)))) rfl ?_
    simp [getB]
    refine ⟨by unfold lim; omega, ?_⟩
    rw [show [PV.tup [PV.tup [PV.int (1 + p), PV.int 0], PV.tup [PV.int 0, PV.int (1 + u)]], PV.tup [PV.tup [PV.int 0, PV.int (1 + v)], PV.tup [PV.int (1 + p), PV.int 0]]] = [(([1 + p, 0], [0, 1 + u]) : Ech), ([0, 1 + v], [1 + p, 0])].map exv from rfl]
    refine ok_mapF (g := fun y : Ech => exv (y.1 ++ fillT t, y.2 ++ fillT t)) (fun y hy Qo q => ?_) ?_
    · have hl : y.1.length = 2 ∧ y.2.length = 2 := by
        simp at hy
        rcases hy with rfl | rfl <;> exact ⟨rfl, rfl⟩
      simp [o_compF, exv, asgT_tup, asgT_name, asgTs_nil, asgTs_cons, getB]
      rw [bin_addT (by have := hx0.t4; have := hl.1; simp [fillT]; omega)]
      simp
      rw [bin_addT (by have := hx0.t4; have := hl.2; simp [fillT]; omega)]
      simp
      simpa [exv] using q
    · have em : ([(([1 + p, 0], [0, 1 + u]) : Ech), ([0, 1 + v], [1 + p, 0])].map fun y : Ech => exv (y.1 ++ fillT t, y.2 ++ fillT t)) = ([(([1 + p, 0] ++ fillT t, [0, 1 + u] ++ fillT t) : Ech), ([0, 1 + v] ++ fillT t, [1 + p, 0] ++ fillT t)] : List Ech).map exv := rfl
      rw [em]
      have hm1 := more_ok hx0.t2 (a := 1 + p) (b := 0) (c := 0) (d := 1 + u) (by omega) (by omega) (by omega) (by omega) (by omega)
      have hm2 := more_ok hx0.t2 (a := 0) (b := 1 + v) (c := 1 + p) (d := 0) (by omega) (by omega) (by omega) (by omega) (by omega)
      generalize hmo : ([(([1 + p, 0] ++ fillT t, [0, 1 + u] ++ fillT t) : Ech), ([0, 1 + v] ++ fillT t, [1 + p, 0] ++ fillT t)] : List Ech) = more
      have hml : more.length = 2 := by rw [← hmo]; rfl
      have hme : ∀ e ∈ more, EOk t e := fun e he => by
        rw [← hmo] at he
        simp only [List.mem_cons, List.not_mem_nil, or_false] at he
        rcases he with rfl | rfl
        · exact hm1
        · exact hm2
      refine ok_step (c := (.asg (.name 3) (.tup (.cons (.idx (.var 3) (.int 0)) (.cons (.sli (.bin .add (.idx (.var 3) (.int 1)) (.var 5)) .omit (.int 6)) .nil))))) rfl ?_
      have hxl := hx0.l
      simp [getB, getZ, isOmit]
      rw [bin_addT (by simp; omega)]
      simp [isOmit]
      rw [← List.map_append, cut6, ← List.map_take]
      show Ok (exCs Γ n (dropC 2 D__law_some_case.body) [some (.scr ns, false), some (.cnt, false), some (.int m, false), some (brd t ((xs0 ++ more).take 6), false), _, _, _, none, none, none, none, none]) _ _
      refine rest _ _ _ _ s5 ⟨hx0.t2, hx0.t4, by simp; omega, fun e he => ?_⟩ (cle_mono hc5 (by omega))
      rcases List.mem_append.mp (List.mem_of_mem_take he) with he | he
      · exact hx0.e e he
      · exact hme e he
  · exact rest xs0 _ _ _ s2 hx0 (cle_mono hc2 (by omega))

/-! ### boards under acts -/
theorem c_seti {Γ : Gam} {n : Nat} {env : Envi} {s : S} {i : Nat} {ix e : Ex} {xs : List PV} {Qc : Fl × Envi → S → Prop} (h : env[i]? = some (some (.lst xs, true)))
    (q : Ok (evE Γ false e env) s (fun r s' => Ok (evE Γ true ix env) s' (fun y s' => ∃ k j, y.1 = .int k ∧ ixN xs.length k = some j ∧ Qc (.next, env.set i (some (.lst (xs.set j r.1), true))) s'))) : Ok (exC Γ n (.seti i ix e) env) s Qc := by
  have h2 : ownL env i = some xs := by unfold ownL; rw [h]
  rw [show exC Γ n (.seti i ix e) env = M.bind (ofO (ownL env i)) fun xs => M.bind (evE Γ false e env) fun r => M.bind (evalB Γ ix env) fun y =>
      ofO (match asIntO y with
        | some k => match ixN xs.length k with
          | some j => some (Fl.next, env.set i (some (.lst (xs.set j r.1), true)))
          | none => none
        | none => none) from rfl, h2, ok_bind, ok_some, ok_bind]
  refine q.mono fun r s' q => ?_
  unfold evalB
  rw [ok_bind, ok_fst]
  refine q.mono fun y s'' ⟨k, j, e1, e2, q⟩ => ?_
  rw [e1]
  simp only [asIntO_int, e2, ok_some]
  exact q
theorem eqv_str (a b : Str) : PyData.eqv (.str a) (.str b) = (a == b) := rfl
theorem act_eqv (a b : Act) : PyData.eqv a.d b.d = decide (a = b) := by
  cases h : decide (a = b) with
  | true =>
    have := of_decide_eq_true h
    subst this
    exact SeqAt.eqv_refl _ (act_canLay a)
  | false =>
    have hne := of_decide_eq_false h
    cases a <;> cases b <;> simp [Act.d, PyData.eqv, PyData.eqvAll] at hne ⊢
    all_goals first | (intro h; exact hne (by omega)) | (intro h1 h2 h3; exact hne (by omega) (by omega) (by omega)) | skip
theorem in_acts (a : Act) (acts : List Act) : cmpop .isin a.pv (.tup (acts.map Act.pv)) = some (decide (a ∈ acts)) := by
  show PV.in? a.pv (.tup (acts.map Act.pv)) = _
  unfold PV.in?
  simp only [act_d, act_ds]
  have h1 : SeqAt.shaped a.d = true := by
    show (PyData.canLay0 a.d && decide (PyData.depth a.d ≤ 64)) = true
    rw [act_canLay]
    cases a <;> rfl
  have h2 : SeqAt.shaped (.tuple (acts.map Act.d)) = true := by
    show (PyData.canLayAll0 (acts.map Act.d) && decide (PyData.depthAll (acts.map Act.d) + 1 ≤ 64)) = true
    have := act_depths acts
    rw [act_canLays, decide_eq_true (by omega)]; rfl
  rw [h1, h2]
  simp only [Bool.and_self, if_true]
  congr 1
  induction acts with
  | nil => rfl
  | cons b acts ih =>
    have h3 : SeqAt.shaped (.tuple (acts.map Act.d)) = true := by
      show (PyData.canLayAll0 (acts.map Act.d) && decide (PyData.depthAll (acts.map Act.d) + 1 ≤ 64)) = true
      have := act_depths acts
      rw [act_canLays, decide_eq_true (by omega)]; rfl
    rw [List.map_cons, List.any_cons, ih h3, act_eqv]
    by_cases h : b = a
    · subst h; simp
    · have h' : ¬ a = b := fun z => h z.symm
      simp [h, h']
/-- what an act leaves of the exchange i's gives -/
def stepG (i : Nat) (g : List Int) : Act → List Int
  | .bar _ => g
  | .fee n j m => if n = i then g.set j (if 0 < g.getD j 0 - m then g.getD j 0 - m else 0) else g
def gU (i : Nat) (acts : List Act) (g : List Int) : List Int := acts.foldl (stepG i) g
theorem stepG_len (i : Nat) (g : List Int) (a : Act) : (stepG i g a).length = g.length := by
  cases a with
  | bar _ => rfl
  | fee n j m => simp only [stepG]; split <;> simp
theorem gU_len (i : Nat) : ∀ (acts : List Act) (g : List Int), (gU i acts g).length = g.length
  | [], _ => rfl
  | a :: acts, g => by
    show (gU i acts (stepG i g a)).length = _
    rw [gU_len i acts, stepG_len]
def netI (x : Ech) : List Int := List.zipWith (fun a b => b - a) x.1 x.2
def undP (acts : List Act) (i : Nat) (x : Ech) : PV := if Act.bar i ∈ acts then .non else .tup ((netI (x.1, gU i acts x.2)).map .int)
theorem ok_forM {α : Type} {Qc : Fl × Envi → S → Prop} {t : Tg} {b : Envi → M (Fl × Envi)} {f : α → PV} (I : List α → Envi → S → Prop) {ys zs : List α} {env : Envi} {s : S} (h0 : I zs env s)
    (h : ∀ y ∈ ys, ∀ zs env s, I zs env s → Ok (ofO (asgT t (f y) env)) s (fun env' s' => Ok (b env') s' (fun r s' => match r.1 with | .next => I (zs ++ [y]) r.2 s' | .ret x f => Qc (.ret x f, r.2) s')))
    (q : ∀ env s', I (zs ++ ys) env s' → Qc (.next, env) s') : Ok (forN t b (ys.map f) env) s Qc := by
  induction ys generalizing env s zs with
  | nil => exact q env s (by simpa using h0)
  | cons y ys ih =>
    rw [List.map_cons]
    unfold forN
    rw [ok_bind]
    refine (h y List.mem_cons_self zs env s h0).mono fun env' s' hb => ?_
    rw [ok_bind]
    refine hb.mono fun r s'' hr => ?_
    obtain ⟨g, e⟩ := r
    cases g with
    | next => exact ih hr (fun z hz => h z (List.mem_cons_of_mem _ hz)) fun e s' hi => q e s' (by simpa using hi)
    | ret x f => exact hr
theorem eq_feefee : cmpop .eq (.str "fee") (.str "fee") = some true := by kernel_rfl
theorem eq_barfee : cmpop .eq (.str "bar") (.str "fee") = some false := by kernel_rfl
/-- the walk over the acts, for one exchange -/
theorem s_gives {Γ : Gam} {n : Nat} {t : Nat} {xs : List Ech} {acts : List Act} {i : Nat} {x : Ech} {found : List PV} {y6 : Slt} {s : S} {Qc : Fl × Envi → S → Prop} (hx : BOk t xs) (hi : xs[i]? = some x) (ha : ∀ a ∈ acts, actOk xs a = true)
    (q : ∀ y6, Qc (.next, [some (brd t xs, false), some (.tup (acts.map Act.pv), false), some (.lst found, true), some (.int i, false), some (exv x, false), some (.lst ((gU i acts x.2).map .int), true), y6]) s) :
    Ok (forN (.name 6) (exCs Γ n (.cons (.ifs (.and (.cons (.cmp .eq (.idx (.var 6) (.int 0)) (.str "fee")) (.cons (.cmp .eq (.idx (.var 6) (.int 1)) (.var 3)) .nil))) (.cons (.seti 5 (.idx (.var 6) (.int 2)) (.blt .max (.cons (.int 0) (.cons (.bin .sub (.idx (.var 5) (.idx (.var 6) (.int 2))) (.idx (.var 6) (.int 3))) .nil)))) .nil) .nil) .nil)) (acts.map Act.pv)
      [some (brd t xs, false), some (.tup (acts.map Act.pv), false), some (.lst found, true), some (.int i, false), some (exv x, false), some (.lst (x.2.map .int), true), y6]) s Qc := by
  have he := hx.e x (List.mem_of_getElem? hi)
  refine ok_forM (fun zs env s' => s' = s ∧ ∃ y6, env = [some (brd t xs, false), some (.tup (acts.map Act.pv), false), some (.lst found, true), some (.int i, false), some (exv x, false), some (.lst ((gU i zs x.2).map .int), true), y6]) (zs := []) ⟨rfl, _, rfl⟩ (fun a ham zs env s' hI => ?_) (fun env s' hI => ?_)
  · obtain ⟨rfl, y6, rfl⟩ := hI
    have hok := ha a ham
    have eg : gU i (zs ++ [a]) x.2 = stepG i (gU i zs x.2) a := by unfold gU; rw [List.foldl_append]; rfl
    rw [eg]
    have hgl := gU_len i zs x.2
    generalize gU i zs x.2 = g at *
    simp only [asgT_name, ok_some, List.set_cons_succ, List.set_cons_zero, c_cons]
    cases a with
    | bar k =>
      simp [Act.pv, getB, at?, ixN, eq_barfee, stepG]
    | fee k j m =>
      simp [Act.pv, getB, at?, ixN, eq_feefee]
      by_cases hk : k = i
      · subst hk
        simp [stepG]
        refine c_seti (xs := g.map .int) rfl ?_
        have hj : j < g.length := by
          rw [hgl]
          simp only [actOk, hi] at hok
          split at hok
          · rename_i c hc
            exact (List.getElem?_eq_some_iff.mp hc).1
          · cases hok
        simp [getB, at?, ixN, hj]
      · have hk' : ¬ (k : Int) = i := by omega
        simp [hk', stepG, hk]
  · obtain ⟨rfl, y6, rfl⟩ := hI
    exact q y6
theorem netI_eq (x : Ech) : netI x = (x.1.zip x.2).map fun p => p.2 - p.1 := by
  unfold netI
  rw [List.zip, List.map_zipWith]
theorem s_netO {Γ : Gam} {n : Nat} {a g : List Int} (hl : a.length ≤ 100) {s : S} {Q : PV × Bool → S → Prop} (q : Q (.tup ((netI (a, g)).map .int), false) s) : Ok (run Γ n D_net_of [.tup [.tup (a.map .int), .tup (g.map .int)]]) s Q := by
  refine ok_run rfl ?_
  have ez : zipW2 (a.map PV.int) (g.map PV.int) = (a.zip g).map fun p => .tup [.int p.1, .int p.2] := zipW2_map _ _
  simp [D_net_of, c_ret, getB, freezeAll, at?, ixN]
  rw [ez]
  refine ⟨by rw [List.length_map, List.length_zip]; unfold lim; omega, ok_mapF (g := fun p => .int (p.2 - p.1)) (fun p _ Qo q => ?_) ?_⟩
  · simp [o_compF, asgT_tup, asgT_name, asgTs_nil, asgTs_cons, getB]
    exact q
  · rw [netI_eq] at q
    simpa [Function.comp_def] using q
def undL (acts : List Act) : Nat → List Ech → List PV
  | _, [] => []
  | k, x :: xs => undP acts k x :: undL acts (k + 1) xs
theorem undL_get (acts : List Act) : ∀ (xs : List Ech) (a k : Nat), (undL acts a xs)[k]? = (xs[k]?).map fun x => undP acts (a + k) x
  | [], _, _ => by simp [undL]
  | x :: xs, a, 0 => rfl
  | x :: xs, a, k + 1 => by
    show (undL acts (a + 1) xs)[k]? = _
    rw [undL_get acts xs (a + 1) k, show a + 1 + k = a + (k + 1) by omega]
    rfl
theorem undL_length (acts : List Act) : ∀ (xs : List Ech) (a : Nat), (undL acts a xs).length = xs.length
  | [], _ => rfl
  | x :: xs, a => by unfold undL; rw [List.length_cons, undL_length acts xs, List.length_cons]
theorem s_under {Γ Γ14 : Gam} {n : Nat} (h14 : Γ.fn 14 = some (run Γ14 n D_net_of)) {t : Nat} {xs : List Ech} (hx : BOk t xs) {acts : List Act} (ha : ∀ a ∈ acts, actOk xs a = true) {s : S} {Q : PV × Bool → S → Prop} (q : Q (.lst (undL acts 0 xs), true) s) : Ok (run Γ n D_under [brd t xs, .tup (acts.map Act.pv)]) s Q := by
  refine ok_run rfl ?_
  have hxl := hx.l
  have hul := undL_length acts xs 0
  simp only [D_under, c_cons, c_asgN, o_lst, o_esN, nxt_next, List.map_cons, List.map_nil]
  simp [freezeIt, getB, freeze1]
  have hxs : (enumW 0 (xs.map exv)).length = xs.length := by rw [enumW_length, List.length_map]
  refine ok_forI (fun k env s' => s' = s ∧ ∃ y3 y4 y5 y6, env = [some (brd t xs, false), some (.tup (acts.map Act.pv), false), some (.lst ((undL acts 0 xs).take k), true), y3, y4, y5, y6]) (xs := enumW 0 (xs.map exv)) (k := 0) (Nat.zero_le _) rfl ⟨rfl, _, _, _, _, rfl⟩ (fun k x env s' hkx hI => ?_) (fun env s' hI => ?_)
  · obtain ⟨rfl, y3, y4, y5, y6, rfl⟩ := hI
    rw [enumW_get, List.getElem?_map] at hkx
    cases hxk : xs[k]? with
    | none => rw [hxk] at hkx; cases hkx
    | some e =>
      rw [hxk] at hkx
      have hkx := Option.some.inj hkx
      subst hkx
      have hkl : k < xs.length := (List.getElem?_eq_some_iff.mp hxk).1
      have he : EOk t e := hx.e e (List.mem_of_getElem? hxk)
      have ht4 := hx.t4
      have hug : (undL acts 0 xs)[k]? = some (undP acts k e) := by rw [undL_get, hxk, Nat.zero_add]; rfl
      have htk : (undL acts 0 xs).take (k + 1) = (undL acts 0 xs).take k ++ [undP acts k e] := by
        rw [List.take_succ, hug]; rfl
      have htl : ((undL acts 0 xs).take k).length < lim := by rw [List.length_take]; unfold lim; omega
      rw [htk]
      simp only [asgT_tup, asgT_name, asgTs_nil, asgTs_cons, ok_some, List.set_cons_succ, List.set_cons_zero, c_cons]
      have eb := in_acts (.bar k) acts
      have eb : cmpop .isin (.tup [.str "bar", .int k]) (.tup (acts.map Act.pv)) = some (decide (.bar k ∈ acts)) := eb
      generalize (undL acts 0 xs).take k = found at *
      by_cases hb : Act.bar k ∈ acts
      · simp [getB, getZ, eb, hb]
        refine c_app (xs := found) rfl htl ?_
        simp [undP, hb]
      · simp [getB, getZ, eb, hb, freezeIt, freeze1, exv, at?, ixN]
        refine s_gives (x := e) hx hxk ha fun y6 => ?_
        simp only [nxt_next, c_cons]
        refine c_app (xs := found) rfl htl ?_
        simp [getB, getZ, exv, at?, ixN, h14, bor, isOwned]
        refine s_netO (by rw [he.l1]; omega) ?_
        simp [undP, hb]
  · obtain ⟨rfl, y3, y4, y5, y6, rfl⟩ := hI
    rw [hxs, List.take_of_length_le (by omega)]
    simp
    exact q

/-! ### boards under acts: the law's own -/
def feeA (i j : Nat) : Act → Option Int
  | .bar _ => none
  | .fee n k m => if n = i ∧ k = j then some (m : Int) else none
def feesOf (acts : List Act) (i j : Nat) : Int := (acts.filterMap (feeA i j)).sum
def lawG (acts : List Act) (i : Nat) : Nat → List Int → List Int
  | _, [] => []
  | j, c :: g => (if 0 < c - feesOf acts i j then c - feesOf acts i j else 0) :: lawG acts i (j + 1) g
theorem cut3 {α : Type} (xs : List α) : cut xs none (some 3) = xs.take 3 := by
  show (xs.drop 0).take (Nat.min 3 xs.length - 0) = xs.take 3
  rw [List.drop_zero, Nat.sub_zero, List.take_eq_take_iff]
  show min (min 3 xs.length) xs.length = min 3 xs.length
  omega
theorem int_beq (n i : Nat) : ((n : Int) == (i : Int)) = decide (n = i) := by
  by_cases h : n = i
  · subst h; simp
  · have : ¬ (n : Int) = i := by omega
    simp [h, this]
theorem eq_head {n k i j : Nat} : cmpop .eq (.tup [.str "fee", .int n, .int k]) (.tup [.str "fee", .int i, .int j]) = some (decide (n = i ∧ k = j)) := by
  have hs : ∀ a b : Nat, SeqAt.shaped (.tuple [.str "fee", .int a, .int b]) = true := fun a b => by kernel_rfl
  show (if SeqAt.shaped (.tuple [.str "fee", .int n, .int k]) && SeqAt.shaped (.tuple [.str "fee", .int i, .int j]) then some (PyData.eqv (.tuple [.str "fee", .int n, .int k]) (.tuple [.str "fee", .int i, .int j])) else none) = _
  rw [hs, hs, Bool.and_self, if_pos rfl]
  congr 1
  simp [PyData.eqv, PyData.eqvAll]
  rw [int_beq, int_beq]
theorem eq_barhead {n i j : Nat} : cmpop .eq (.tup [.str "bar", .int n]) (.tup [.str "fee", .int i, .int j]) = some false := by kernel_rfl
theorem fees_eq {i j : Nat} (acts : List Act) : (acts.map Act.pv).filterMap (fun v => match v with | .tup [_, .int n, .int k, .int m] => if n = i ∧ k = j then some (PV.int m) else none | _ => none) = (acts.filterMap (feeA i j)).map PV.int := by
  induction acts with
  | nil => rfl
  | cons a acts ih =>
    cases a with
    | bar n =>
      show (acts.map Act.pv).filterMap _ = (acts.filterMap (feeA i j)).map PV.int
      exact ih
    | fee n k m =>
      by_cases h : n = i ∧ k = j
      · have h' : (n : Int) = i ∧ (k : Int) = j := ⟨by omega, by omega⟩
        have e1 : feeA i j (.fee n k m) = some (m : Int) := if_pos h
        rw [List.map_cons, List.filterMap_cons_some (b := PV.int m) (by show (if (n : Int) = i ∧ (k : Int) = j then _ else _) = _; rw [if_pos h']), List.filterMap_cons_some e1, ih]
        rfl
      · have h' : ¬ ((n : Int) = i ∧ (k : Int) = j) := fun z => h ⟨by omega, by omega⟩
        have e1 : feeA i j (.fee n k m) = none := if_neg h
        rw [List.map_cons, List.filterMap_cons_none (by show (if (n : Int) = i ∧ (k : Int) = j then _ else _) = _; rw [if_neg h']), List.filterMap_cons_none e1, ih]
theorem s_fees {Γ : Gam} {acts : List Act} {i j : Nat} {a0 a1 a2 a3 a5 a6 a8 a9 a10 : Slt} {s : S} {Qs : List PV → S → Prop} (q : Qs ((acts.filterMap (feeA i j)).map .int) s) :
    Ok (mapMx (compF Γ (.idx (.var 10) (.int 3)) (.name 10) (.cons (.cmp .eq (.sli (.var 10) .omit (.int 3)) (.tup (.cons (.str "fee") (.cons (.var 4) (.cons (.var 7) .nil))))) .nil) [a0, a1, a2, a3, some (.int i, false), a5, a6, some (.int j, false), a8, a9, a10]) (acts.map Act.pv)) s Qs := by
  refine ok_map (g := fun v => match v with | .tup [_, .int n, .int k, .int m] => if n = i ∧ k = j then some (.int m) else none | _ => none) (fun v hv Qo q => ?_) ?_
  · obtain ⟨a, _, rfl⟩ := List.mem_map.mp hv
    cases a with
    | bar n =>
      simp [o_compF, asgT_name, Act.pv, getB, getZ, isOmit, cut3, eq_barhead]
      exact q
    | fee n k m =>
      simp [o_compF, asgT_name, Act.pv, getB, getZ, isOmit, cut3, eq_head, at?, ixN]
      by_cases h : n = i ∧ k = j
      · obtain ⟨rfl, rfl⟩ := h
        simpa [Act.pv] using q
      · have h' : ¬ ((n : Int) = i ∧ (k : Int) = j) := fun z => h ⟨by omega, by omega⟩
        simp only [Act.pv, h', if_false] at q
        simp [h]
        exact q
  · rw [fees_eq]
    exact q
def capF (acts : List Act) (i j : Nat) (c : Int) : Int := if 0 < c - feesOf acts i j then c - feesOf acts i j else 0
def stepL (acts : List Act) (i : Nat) (j : Nat) (c : Int) (z : List Int) : List Int := z ++ [capF acts i j c]
theorem foldL_eq (acts : List Act) (i : Nat) : ∀ (g : List Int) (j : Nat) (z : List Int), foldE (stepL acts i) j g z = z ++ lawG acts i j g
  | [], _, z => by unfold foldE lawG; simp
  | c :: g, j, z => by unfold foldE lawG; rw [foldL_eq acts i g]; unfold stepL capF; simp
def stepU (acts : List Act) (k : Nat) (x : Ech) (z : List Ech × List Nat) : List Ech × List Nat := if Act.bar k ∈ acts then z else (z.1 ++ [(x.1, lawG acts k 0 x.2)], z.2 ++ [k])
def lawU (acts : List Act) (xs : List Ech) : List Ech × List Nat := foldE (stepU acts) 0 xs ([], [])
theorem notin_acts (a : Act) (acts : List Act) : cmpop .notin a.pv (.tup (acts.map Act.pv)) = some (!decide (a ∈ acts)) := by
  have h := in_acts a acts
  show onot (PV.in? a.pv (.tup (acts.map Act.pv))) = _
  rw [show PV.in? a.pv (.tup (acts.map Act.pv)) = cmpop .isin a.pv (.tup (acts.map Act.pv)) from rfl, h]
  rfl
def nPV (k : Nat) : PV := .int k
theorem s_lawUnder {Γ : Gam} {n : Nat} {t : Nat} {xs : List Ech} (hx : BOk t xs) {acts : List Act} (hal : acts.length ≤ 1000) {s : S} {Q : PV × Bool → S → Prop} (q : Q (.tup [brd t (lawU acts xs).1, .lst ((lawU acts xs).2.map nPV)], false) s) : Ok (run Γ n D__law_under [brd t xs, .tup (acts.map Act.pv)]) s Q := by
  refine ok_run rfl ?_
  have hxl := hx.l
  simp only [D__law_under, c_cons, c_par, o_rC, o_rN, o_lst, o_esN, nxt_next, List.map_cons, List.map_nil]
  simp [putRs, freezeIt, getB]
  refine ok_forE (f := exv) (stepU acts) (fun k z env s' => s' = s ∧ z.1.length ≤ k ∧ z.2.length ≤ k ∧ ∃ y4 y5 y6 y7 y8 y9 y10, env = [some (brd t xs, false), some (.tup (acts.map Act.pv), false), some (.lst (z.1.map exv), true), some (.lst (z.2.map nPV), true), y4, y5, y6, y7, y8, y9, y10]) (B := 6) (k := 0) (z := ([], [])) (by simpa using hxl) ⟨rfl, by simp, by simp, _, _, _, _, _, _, _, rfl⟩ (fun x hxm k z env s' hk hI => ?_) (fun env s' hI => ?_)
  · obtain ⟨rfl, hz1, hz2, y4, y5, y6, y7, y8, y9, y10, rfl⟩ := hI
    have he := hx.e x hxm
    have ht4 := hx.t4
    simp only [asgT_tup, asgT_name, asgTs_nil, asgTs_cons, ok_some, List.set_cons_succ, List.set_cons_zero, c_cons]
    have eb : cmpop .notin (.tup [.str "bar", .int k]) (.tup (acts.map Act.pv)) = some (!decide (.bar k ∈ acts)) := notin_acts (.bar k) acts
    by_cases hb : Act.bar k ∈ acts
    · simp [getB, getZ, eb, hb, stepU]
      omega
    · simp [getB, getZ, eb, hb, freezeIt, freeze1, exv, at?, ixN]
      refine ok_forE (f := PV.int) (stepL acts k) (fun j w env s'' => s'' = s' ∧ w.length ≤ j ∧ ∃ y7 y8 y9 y10, env = [some (brd t xs, false), some (.tup (acts.map Act.pv), false), some (.lst (z.1.map exv), true), some (.lst (z.2.map nPV), true), some (.int k, false), some (.tup [.tup (x.1.map .int), .tup (x.2.map .int)], false), some (.lst (w.map .int), true), y7, y8, y9, y10]) (B := 4) (k := 0) (z := []) (by rw [he.l2]; simpa using ht4) ⟨rfl, by simp, _, _, _, _, rfl⟩ (fun c hc j w env s'' hj hI => ?_) (fun env s'' hI => ?_)
      · obtain ⟨rfl, hw, y7, y8, y9, y10, rfl⟩ := hI
        simp only [asgT_tup, asgT_name, asgTs_nil, asgTs_cons, ok_some, List.set_cons_succ, List.set_cons_zero, c_cons]
        simp [getB, getZ, show acts.length ≤ lim by unfold lim; omega]
        refine s_fees ?_
        rw [sum_lst (intsOf_ints _)]
        simp
        refine c_app (xs := w.map .int) rfl (by simp; unfold lim; omega) ?_
        simp [getB, getZ]
        exact ⟨by simp [stepL]; omega, by simp [stepL, capF, feesOf]⟩
      · obtain ⟨rfl, hw, y7, y8, y9, y10, rfl⟩ := hI
        rw [foldL_eq]
        simp only [nxt_next, c_cons, List.nil_append]
        refine c_app (xs := z.1.map exv) rfl (by simp; unfold lim; omega) ?_
        simp [getB, getZ, at?, ixN]
        refine c_app (xs := z.2.map nPV) rfl (by simp; unfold lim; omega) ?_
        simp [getB, getZ, stepU, hb, exv, nPV]
        omega
  · obtain ⟨rfl, hz1, hz2, y4, y5, y6, y7, y8, y9, y10, rfl⟩ := hI
    rw [nxt_next, c_cons, c_ret (by simp)]
    simp [getB, getZ, freezeAll]
    exact q

/-! ### the two readings of a board under acts agree -/
def oneF (i j : Nat) (c : Int) (a : Act) : Int := match feeA i j a with
  | some m => if 0 < c - m then c - m else 0
  | none => c
theorem stepG_get (i : Nat) (g : List Int) (a : Act) (j : Nat) : (stepG i g a)[j]? = g[j]?.map fun c => oneF i j c a := by
  cases a with
  | bar n => simp [stepG, oneF, feeA]
  | fee n k m =>
    by_cases hn : n = i
    · subst hn
      by_cases hk : k = j
      · subst hk
        simp [stepG, oneF, feeA]
        by_cases hl : k < g.length
        · simp [hl]
        · simp [hl]
      · simp [stepG, oneF, feeA, hk]
    · simp [stepG, oneF, feeA, hn]
theorem gU_get (i : Nat) : ∀ (acts : List Act) (g : List Int) (j : Nat), (gU i acts g)[j]? = g[j]?.map fun c => acts.foldl (oneF i j) c
  | [], g, j => by simp [gU]
  | a :: acts, g, j => by
    show (gU i acts (stepG i g a))[j]? = _
    rw [gU_get i acts, stepG_get, Option.map_map]
    rfl
theorem feeA_nonneg {i j : Nat} {a : Act} {m : Int} (h : feeA i j a = some m) : 0 ≤ m := by
  cases a with
  | bar n => cases h
  | fee n k m' =>
    by_cases hc : n = i ∧ k = j
    · rw [show feeA i j (.fee n k m') = some (m' : Int) from if_pos hc] at h
      cases h
      omega
    · rw [show feeA i j (.fee n k m') = none from if_neg hc] at h
      cases h
theorem fees_nonneg (i j : Nat) : ∀ acts : List Act, 0 ≤ (acts.filterMap (feeA i j)).sum
  | [] => Int.le_refl 0
  | a :: acts => by
    have ih := fees_nonneg i j acts
    cases h : feeA i j a with
    | none => rw [List.filterMap_cons_none h]; exact ih
    | some m =>
      rw [List.filterMap_cons_some h, List.sum_cons]
      have := feeA_nonneg h
      omega
theorem fold_cap (i j : Nat) : ∀ (acts : List Act) (c : Int), 0 ≤ c → acts.foldl (oneF i j) c = capF acts i j c
  | [], c, h => by
    show c = if 0 < c - 0 then c - 0 else 0
    split <;> omega
  | a :: acts, c, h => by
    have hs := fees_nonneg i j acts
    rw [List.foldl_cons]
    cases hf : feeA i j a with
    | none =>
      have e1 : oneF i j c a = c := by unfold oneF; rw [hf]
      rw [e1, fold_cap i j acts c h]
      unfold capF feesOf
      rw [List.filterMap_cons_none hf]
    | some m =>
      have hm := feeA_nonneg hf
      have e1 : oneF i j c a = if 0 < c - m then c - m else 0 := by unfold oneF; rw [hf]
      rw [e1, fold_cap i j acts _ (by split <;> omega)]
      unfold capF feesOf
      rw [List.filterMap_cons_some hf, List.sum_cons]
      repeat' split
      all_goals omega
theorem lawG_get (acts : List Act) (i : Nat) : ∀ (g : List Int) (j k : Nat), (lawG acts i j g)[k]? = g[k]?.map (capF acts i (j + k))
  | [], _, _ => by simp [lawG]
  | c :: g, j, 0 => rfl
  | c :: g, j, k + 1 => by
    show (lawG acts i (j + 1) g)[k]? = _
    rw [lawG_get acts i g (j + 1) k, show j + 1 + k = j + (k + 1) by omega]
    rfl
theorem gU_law (acts : List Act) (i : Nat) {g : List Int} (h : ∀ c ∈ g, 0 ≤ c) : gU i acts g = lawG acts i 0 g := by
  apply List.ext_getElem?
  intro j
  rw [gU_get, lawG_get, Nat.zero_add]
  cases hg : g[j]? with
  | none => rfl
  | some c =>
    show some (acts.foldl (oneF i j) c) = some (capF acts i j c)
    rw [fold_cap i j acts c (h c (List.mem_of_getElem? hg))]

/-! ### sums of nets -/
theorem c_augi {Γ : Gam} {n : Nat} {env : Envi} {s : S} {i : Nat} {op : BOp} {ix e : Ex} {xs : List PV} {Qc : Fl × Envi → S → Prop} (h : env[i]? = some (some (.lst xs, true)))
    (q : Ok (evE Γ true ix env) s (fun y s' => ∃ k j o, y.1 = .int k ∧ ixN xs.length k = some j ∧ xs[j]? = some (.int o) ∧ Ok (evE Γ false e env) s' (fun r s' => ∃ v z, r.1 = .int v ∧ binop op (.int o) (.int v) = some z ∧ Qc (.next, env.set i (some (.lst (xs.set j z.1), true))) s'))) : Ok (exC Γ n (.augi i op ix e) env) s Qc := by
  have h2 : ownL env i = some xs := by unfold ownL; rw [h]
  rw [show exC Γ n (.augi i op ix e) env = M.bind (ofO (ownL env i)) fun xs => M.bind (evalB Γ ix env) fun y => M.bind (ofO (match asIntO y with | some k => ixN xs.length k | none => none)) fun j =>
      M.bind (ofO xs[j]?) fun old => M.bind (evE Γ false e env) fun r => M.bind (ofO (match old, r.1 with | .int _, .int _ => binop op old r.1 | _, _ => none)) fun z =>
      M.ret (Fl.next, env.set i (some (.lst (xs.set j z.1), true))) from rfl, h2, ok_bind, ok_some, ok_bind]
  unfold evalB
  rw [ok_fst]
  refine q.mono fun y s' ⟨k, j, o, e1, e2, e3, q⟩ => ?_
  rw [e1, ok_bind]
  simp only [asIntO_int, e2, ok_some]
  rw [ok_bind, e3, ok_some, ok_bind]
  refine q.mono fun r s'' ⟨v, z, e4, e5, q⟩ => ?_
  rw [ok_bind, e4]
  simp only [e5, ok_some, ok_ret]
  exact q
def colS (ps : List (List Int × Int)) (j : Nat) : Int := (ps.map fun p => p.1.getD j 0 * p.2).sum
def rowT (p : List Int × Int) : PV := .tup [.tup (p.1.map .int), .int p.2]
theorem colS_snoc (ps : List (List Int × Int)) (p : List Int × Int) (j : Nat) : colS (ps ++ [p]) j = colS ps j + p.1.getD j 0 * p.2 := by
  unfold colS
  simp
theorem range_set {t k : Nat} {f g : Nat → PV} (hk : k < t) (h : ∀ j, j ≠ k → f j = g j) : ((List.range t).map f).set k (g k) = (List.range t).map g := by
  apply List.ext_getElem?
  intro j
  rw [List.getElem?_set]
  by_cases hj : k = j
  · subst hj
    simp [hk]
  · rw [if_neg hj, List.getElem?_map, List.getElem?_map]
    by_cases hl : j < t
    · simp [hl]
      exact h j fun z => hj z.symm
    · simp [hl]
theorem mul_zeros {t : Nat} (h2 : 2 ≤ t) (h4 : t ≤ 4) : binop .mul (.lst [.int 0]) (.int t) = some (.lst ((List.range t).map fun _ => .int 0), true) := by
  obtain rfl | rfl | rfl : t = 2 ∨ t = 3 ∨ t = 4 := by omega
  · rfl
  · rfl
  · rfl
theorem s_netSum {Γ : Gam} {n : Nat} {t : Nat} (h2 : 2 ≤ t) (h4 : t ≤ 4) {ws : List (List Int)} {cs : List Int} {v1 v2 : PV} (e1 : seqOf v1 = some (ws.map fun w => .tup (w.map .int))) (e2 : seqOf v2 = some (cs.map .int)) (hw : ∀ w ∈ ws, w.length = t ∧ ∀ i ∈ w, -5 ≤ i ∧ i ≤ 5) {s : S} {Q : PV × Bool → S → Prop}
    (q : Q (.lst ((List.range t).map fun j => .int (colS (ws.zip cs) j)), true) s) : Ok (run Γ n D_net_sum [v1, v2, .int t]) s Q := by
  refine ok_run rfl ?_
  have hr : rngOk 0 (t : Int) = true := by
    unfold rngOk lim
    simp only [Bool.and_eq_true, decide_eq_true_eq]
    omega
  have ez : zipW2 (ws.map fun w => PV.tup (w.map .int)) (cs.map .int) = (ws.zip cs).map rowT := zipW2_map _ _
  simp only [D_net_sum, c_cons, c_asgN, o_bin, o_lst, o_esC, o_esN, o_int, List.map_cons, List.map_nil]
  simp [getB, mul_zeros h2 h4, freezeIt, freeze1, e1, e2]
  rw [ez]
  refine ok_forM (fun zs env s' => s' = s ∧ ∃ y4 y5 y6, env = [some (v1, false), some (v2, false), some (.int t, false), some (.lst ((List.range t).map fun j => .int (colS zs j)), true), y4, y5, y6]) (zs := []) ⟨rfl, none, none, none, by simp [colS]⟩ (fun p hp zs env s' hI => ?_) (fun env s' hI => ?_)
  · obtain ⟨rfl, y4, y5, y6, rfl⟩ := hI
    have hw1 := hw p.1 (List.of_mem_zip hp).1
    simp only [rowT, asgT_tup, asgT_name, asgTs_nil, asgTs_cons, ok_some, List.set_cons_succ, List.set_cons_zero, c_cons]
    simp [getB, hr, freezeIt]
    have hrl : (rangeW 0 (t : Int)).length = t := by unfold rangeW; simp
    refine ok_forI (fun k env s'' => s'' = s' ∧ ∃ y6, env = [some (v1, false), some (v2, false), some (.int t, false), some (.lst ((List.range t).map fun j => .int (colS zs j + if j < k then p.1.getD j 0 * p.2 else 0)), true), some (.tup (p.1.map .int), false), some (.int p.2, false), y6]) (xs := rangeW 0 (t : Int)) (k := 0) (Nat.zero_le _) rfl ⟨rfl, y6, by simp⟩ (fun k x env s'' hkx hI => ?_) (fun env s'' hI => ?_)
    · obtain ⟨rfl, y6, rfl⟩ := hI
      have hk : k < t := by rw [← hrl]; exact (List.getElem?_eq_some_iff.mp hkx).1
      have hx : x = .int k := by
        unfold rangeW at hkx
        rw [List.getElem?_map] at hkx
        simp [hk] at hkx
        exact hkx.symm
      subst hx
      have hkw : k < p.1.length := by rw [hw1.1]; exact hk
      have hb := hw1.2 p.1[k] (List.getElem_mem _)
      simp only [asgT_name, ok_some, List.set_cons_succ, List.set_cons_zero, c_cons]
      refine c_augi (xs := (List.range t).map fun j => .int (colS zs j + if j < k then p.1.getD j 0 * p.2 else 0)) rfl ?_
      simp [getB]
      refine ⟨k, by unfold ixN; rw [if_pos (by omega), if_pos (by omega)]; simp, _, ⟨k, by simp [hk], rfl⟩, ?_⟩
      rw [at_nat (xs := p.1.map PV.int) (i := k) (by rw [List.length_map]; exact hkw)]
      simp
      rw [bin_mulI' (by omega)]
      simp
      have ek := range_set (t := t) (k := k) (f := fun j => PV.int (colS zs j + if j < k then p.1[j]?.getD 0 * p.2 else 0)) (g := fun j => PV.int (colS zs j + if j < k + 1 then p.1[j]?.getD 0 * p.2 else 0)) hk (fun j hj => by
        by_cases h1 : j < k
        · simp [h1, show j < k + 1 by omega]
        · simp [h1, show ¬ j < k + 1 by omega])
      simp [hkw] at ek ⊢
      exact ek
    · obtain ⟨rfl, y6, rfl⟩ := hI
      refine ⟨rfl, some (.tup (p.1.map .int), false), some (.int p.2, false), y6, ?_⟩
      have e : ((List.range t).map fun j => PV.int (colS zs j + if j < (rangeW 0 (t : Int)).length then p.1.getD j 0 * p.2 else 0)) = (List.range t).map fun j => PV.int (colS (zs ++ [p]) j) := by
        apply List.map_congr_left
        intro j hj
        rw [hrl, if_pos (List.mem_range.mp hj), colS_snoc]
      rw [e]
  · obtain ⟨rfl, y4, y5, y6, rfl⟩ := hI
    simp
    exact q

/-! ### gains shown by counts -/
def oNet (o : Option (List Int)) : PV := match o with
  | none => .non
  | some w => .tup (w.map .int)
def showB (l : List Int) : Bool := match l with
  | [] => false
  | i :: is => decide (0 ≤ imin i is) && decide (0 < imax i is)
def filled (t : Nat) (o : Option (List Int)) : List Int := o.getD (List.replicate t 0)
def showsB (t : Nat) (os : List (Option (List Int))) (cs : List Int) : Bool := !((os.zip cs).any fun p => decide (0 < p.2) && p.1.isNone) && showB ((List.range t).map (colS ((os.map (filled t)).zip cs)))
theorem mul_zeroT {t : Nat} (h2 : 2 ≤ t) (h4 : t ≤ 4) : binop .mul (.tup [.int 0]) (.int t) = some (.tup ((List.replicate t (0 : Int)).map .int), false) := by
  obtain rfl | rfl | rfl : t = 2 ∨ t = 3 ∨ t = 4 := by omega
  · rfl
  · rfl
  · rfl
theorem s_showsGain {Γ Γ48 : Gam} {n : Nat} (h48 : Γ.fn 48 = some (run Γ48 n D_net_sum)) {t : Nat} (h2 : 2 ≤ t) (h4 : t ≤ 4) {os : List (Option (List Int))} (hol : os.length ≤ 1000) {cs : List Int} {v2 : PV} (e2 : seqOf v2 = some (cs.map .int)) (hw : ∀ w, some w ∈ os → w.length = t ∧ ∀ i ∈ w, -5 ≤ i ∧ i ≤ 5) {s : S} {Q : PV × Bool → S → Prop}
    (q : Q (.bl (showsB t os cs), false) s) : Ok (run Γ n D_shows_gain [.int t, .lst (os.map oNet), v2]) s Q := by
  refine ok_run rfl ?_
  have ez : zipW2 (os.map oNet) (cs.map .int) = (os.zip cs).map fun p => .tup [oNet p.1, .int p.2] := zipW2_map _ _
  have hzl : ((os.zip cs).map fun p => PV.tup [oNet p.1, .int p.2]).length ≤ lim := by rw [List.length_map, List.length_zip]; unfold lim; omega
  have hmem : ∀ w ∈ os.map (filled t), w.length = t ∧ ∀ i ∈ w, -5 ≤ i ∧ i ≤ 5 := fun w hwm => by
    obtain ⟨o, ho, rfl⟩ := List.mem_map.mp hwm
    cases o with
    | none => exact ⟨by simp [filled], fun i hi => by have : i = 0 := (List.mem_replicate.mp hi).2; omega⟩
    | some w => exact hw w ho
  show Ok (exCs Γ n (dropC 0 D_shows_gain.body) [some (.int t, false), some (.lst (os.map oNet), false), some (v2, false), none, none, none, none]) _ _
  refine ok_step (c := .ifs (.blt .any (.cons (.comp (.and (.cons (.cmp .gt (.var 6) (.int 0)) (.cons (.cmp .is (.var 5) .non) .nil))) (.tup (.cons (.name 5) (.cons (.name 6) .nil))) (.zip2 (.var 1) (.var 2)) .nil) .nil)) (.cons (.ret (.bl false)) .nil) .nil) rfl ?_
  simp [getB, e2]
  rw [ez]
  refine ⟨hzl, ok_mapF (g := fun p => .bl (decide (0 < p.2) && p.1.isNone)) (fun p _ Qo q => ?_) ?_⟩
  · simp [o_compF, asgT_tup, asgT_name, asgTs_nil, asgTs_cons, getB]
    by_cases hp : 0 < p.2
    · cases ho : p.1 with
      | none => simpa [hp, ho, oNet, cmpop, PV.is?] using q
      | some w => simpa [hp, ho, oNet, cmpop, PV.is?] using q
    · simpa [hp] using q
  · rw [any_map]
    cases ha : (os.zip cs).any (fun p => decide (0 < p.2) && p.1.isNone) with
    | true =>
      have e : showsB t os cs = false := by unfold showsB; rw [ha]; rfl
      rw [e] at q
      simp [c_ret, freezeAll]
      exact q
    | false =>
      have e : showsB t os cs = showB ((List.range t).map (colS ((os.map (filled t)).zip cs))) := by unfold showsB; rw [ha]; simp
      rw [e] at q
      simp
      refine ok_step (c := .asgz 3 (.comp (.ite (.cmp .is (.var 5) .non) (.bin .mul (.tup (.cons (.int 0) .nil)) (.var 0)) (.var 5)) (.name 5) (.val (.var 1)) .nil)) rfl ?_
      simp [getB]
      refine ⟨by unfold lim; omega, ok_mapF (g := fun o => .tup ((filled t o).map .int)) (fun o _ Qo q => ?_) ?_⟩
      · cases o with
        | none => simpa [o_compF, asgT_name, getB, getZ, oNet, cmpop, PV.is?, mul_zeroT h2 h4, filled] using q
        | some w => simpa [o_compF, asgT_name, getB, getZ, oNet, cmpop, PV.is?, filled] using q
      · refine ok_step (c := .asgz 4 (.call 48 (.cons (.var 3) (.cons (.var 2) (.cons (.var 0) .nil))))) rfl ?_
        simp [getB, bor, isOwned, h48]
        refine s_netSum (ws := os.map (filled t)) h2 h4 (by simp [Function.comp_def]) e2 hmem ?_
        refine ok_step (c := .ret (.and (.cons (.cmp .ge (.blt .min (.cons (.var 4) .nil)) (.int 0)) (.cons (.cmp .gt (.blt .max (.cons (.var 4) .nil)) (.int 0)) .nil)))) rfl ?_
        rw [c_ret (by simp)]
        have el : ((List.range t).map fun j => PV.int (colS ((os.map (filled t)).zip cs) j)) = ((List.range t).map (colS ((os.map (filled t)).zip cs))).map .int := by rw [List.map_map]; rfl
        rw [el]
        obtain ⟨i, is, hi⟩ : ∃ i is, (List.range t).map (colS ((os.map (filled t)).zip cs)) = i :: is := by
          cases hl : (List.range t).map (colS ((os.map (filled t)).zip cs)) with
          | nil => have := congrArg List.length hl; simp at this; omega
          | cons i is => exact ⟨i, is, rfl⟩
        rw [hi] at q ⊢
        have emin : bltop .min [.lst ((i :: is).map .int)] = some (.int (imin i is), false) := by
          show (match intsOf ((i :: is).map .int) with | some (i :: is) => some (PV.int (imin i is), false) | _ => none) = _
          rw [intsOf_ints]
        have emax : bltop .max [.lst ((i :: is).map .int)] = some (.int (imax i is), false) := by
          show (match intsOf ((i :: is).map .int) with | some (i :: is) => some (PV.int (imax i is), false) | _ => none) = _
          rw [intsOf_ints]
        rw [List.map_cons] at emin emax ⊢
        simp [getB, freezeAll, emin, emax]
        by_cases h0 : 0 ≤ imin i is
        · simp [showB, h0] at q
          simp [h0]
          by_cases h1 : 0 < imax i is
          · simpa [h1] using q
          · simpa [h1] using q
        · simp [showB, h0] at q
          simp [h0, q]

/-! ### gains judged -/
def undO (acts : List Act) (i : Nat) (x : Ech) : Option (List Int) := if Act.bar i ∈ acts then none else some (netI (x.1, gU i acts x.2))
def undOL (acts : List Act) : Nat → List Ech → List (Option (List Int))
  | _, [] => []
  | k, x :: xs => undO acts k x :: undOL acts (k + 1) xs
theorem undL_eq (acts : List Act) : ∀ (xs : List Ech) (k : Nat), undL acts k xs = (undOL acts k xs).map oNet
  | [], _ => rfl
  | x :: xs, k => by
    unfold undL undOL
    rw [List.map_cons, undL_eq acts xs]
    congr 1
    unfold undP undO
    split <;> rfl
theorem undOL_length (acts : List Act) : ∀ (xs : List Ech) (a : Nat), (undOL acts a xs).length = xs.length
  | [], _ => rfl
  | x :: xs, a => by unfold undOL; rw [List.length_cons, undOL_length acts xs, List.length_cons]
theorem lawG_mem (acts : List Act) (i : Nat) : ∀ (g : List Int) (j : Nat), (∀ c ∈ g, 0 ≤ c ∧ c ≤ 5) → ∀ c ∈ lawG acts i j g, 0 ≤ c ∧ c ≤ 5
  | [], _, _, c, h => by simp [lawG] at h
  | c0 :: g, j, h0, c, h => by
    unfold lawG at h
    rcases List.mem_cons.mp h with rfl | h
    · have h1 := h0 c0 List.mem_cons_self
      have h2 := fees_nonneg i j acts
      unfold feesOf
      split <;> omega
    · exact lawG_mem acts i g (j + 1) (fun c hc => h0 c (List.mem_cons_of_mem _ hc)) c h
theorem netI_ok {t : Nat} {a g : List Int} (la : a.length = t) (lg : g.length = t) (ha : ∀ i ∈ a, 0 ≤ i ∧ i ≤ 5) (hg : ∀ i ∈ g, 0 ≤ i ∧ i ≤ 5) : (netI (a, g)).length = t ∧ ∀ i ∈ netI (a, g), -5 ≤ i ∧ i ≤ 5 := by
  rw [netI_eq]
  refine ⟨by simp [la, lg], fun i hi => ?_⟩
  obtain ⟨p, hp, rfl⟩ := List.mem_map.mp hi
  have h1 := ha p.1 (List.of_mem_zip hp).1
  have h2 := hg p.2 (List.of_mem_zip hp).2
  show -5 ≤ p.2 - p.1 ∧ p.2 - p.1 ≤ 5
  omega
theorem undOL_ok {t : Nat} (acts : List Act) : ∀ {xs : List Ech} {k : Nat}, (∀ x ∈ xs, EOk t x) → ∀ w, some w ∈ undOL acts k xs → w.length = t ∧ ∀ i ∈ w, -5 ≤ i ∧ i ≤ 5
  | [], _, _, w, h => by simp [undOL] at h
  | x :: xs, k, hx, w, h => by
    unfold undOL at h
    have he := hx x List.mem_cons_self
    rcases List.mem_cons.mp h with h | h
    · unfold undO at h
      by_cases hb : Act.bar k ∈ acts
      · rw [if_pos hb] at h; cases h
      · rw [if_neg hb] at h
        cases h
        refine netI_ok he.l1 (by rw [gU_len]; exact he.l2) he.b1 ?_
        rw [gU_law acts k fun c hc => (he.b2 c hc).1]
        exact lawG_mem acts k x.2 0 he.b2
    · exact undOL_ok acts (fun y hy => hx y (List.mem_cons_of_mem _ hy)) w h
def gainU (t : Nat) (xs : List Ech) (acts : List Act) (cs : List Int) : Bool := showsB t (undOL acts 0 xs) cs
structure GainOk (Γ : Gam) (n : Nat) : Prop where
  h : ∃ Γ72 Γ14 Γ53 Γ48 : Gam, Γ.fn 72 = some (run Γ72 n D_under) ∧ Γ72.fn 14 = some (run Γ14 n D_net_of) ∧ Γ.fn 53 = some (run Γ53 n D_shows_gain) ∧ Γ53.fn 48 = some (run Γ48 n D_net_sum)
  c : ∃ Γ25 Γ1 Γ0 : Gam, Γ.fn 25 = some (run Γ25 n D_are_counts) ∧ Γ25.fn 1 = some (run Γ1 n D_are_numbers) ∧ Γ1.fn 0 = some (run Γ0 n D_is_integer)
  a : ∃ Γ104 Γ102 : Gam, Γ.fn 104 = some (run Γ104 n D_need_acts) ∧ NeedOk Γ104 n ∧ Γ104.fn 102 = some (run Γ102 n D_acts_stand) ∧ StandA Γ102 n
theorem s_counts {Γ Γ1 Γ0 : Gam} {n : Nat} (h1 : Γ.fn 1 = some (run Γ1 n D_are_numbers)) (h0 : Γ1.fn 0 = some (run Γ0 n D_is_integer)) {t : Nat} {xs : List Ech} {v : PV} (hd : dat v = true) (hc : ∀ ws, v = .tup ws → ws.length ≤ lim ∧ ∀ x ∈ ws, dat x = true) {s : S} {Q : PV × Bool → S → Prop} (q : Q (.bl (areN v xs.length 0 1000000000000), false) s) :
    Ok (run Γ n D_are_counts [brd t xs, v]) s Q := by
  refine ok_run rfl ?_
  simp [D_are_counts, c_ret, getB, getZ, freezeAll, h1, bor, isOwned]
  rw [bin_powI (by decide) (by decide) (by decide)]
  simp
  exact s_arenum h0 hd hc (by simpa using q)
theorem s_isGainUnder {Γ : Gam} {n : Nat} (h : GainOk Γ n) {t : Nat} {xs : List Ech} (hx : BOk t xs) {acts : List Act} (ha : ∀ a ∈ acts, actOk xs a = true) (hlt : acts.Pairwise fun a b => actLt a b = true) (hal : acts.length ≤ 10) {cs : List Int} (hcl : cs.length ≤ 1000) {s : S} {Q : PV × Bool → S → Prop}
    (q : Q (.bl (areN (.tup (cs.map .int)) xs.length 0 1000000000000 && gainU t xs acts cs), false) s) : Ok (run Γ n D_is_gain_under [brd t xs, .tup (acts.map Act.pv), .tup (cs.map .int)]) s Q := by
  obtain ⟨Γ72, Γ14, Γ53, Γ48, e1, e2, e3, e4⟩ := h.h
  obtain ⟨Γ25, Γ1, Γ0, e5, e6, e7⟩ := h.c
  obtain ⟨Γ104, Γ102, e8, hn, e9, hs⟩ := h.a
  refine ok_run rfl ?_
  show Ok (exCs Γ n (dropC 0 D_is_gain_under.body) [some (brd t xs, false), some (.tup (acts.map Act.pv), false), some (.tup (cs.map .int), false)]) _ _
  refine ok_step (c := .expr (.call 104 (.cons (.var 0) (.cons (.var 1) .nil)))) rfl ?_
  simp [getB, bor, isOwned, e8]
  refine ok_run rfl ?_
  simp [D_need_acts, getB, bor, isOwned]
  refine o_need hn hx ?_
  simp [getB, bor, isOwned, e9]
  refine s_actsStand hs hx (by omega) ?_
  rw [actsB_ok ha hlt, decide_eq_true hal]
  simp
  refine ok_step (c := .ret (.and (.cons (.call 25 (.cons (.var 0) (.cons (.var 2) .nil))) (.cons (.call 53 (.cons (.idx (.var 0) (.int 0)) (.cons (.call 72 (.cons (.var 0) (.cons (.var 1) .nil))) (.cons (.var 2) .nil)))) .nil)))) rfl ?_
  rw [c_ret (by simp)]
  simp [getB, freezeAll, bor, isOwned, e5]
  refine s_counts e6 e7 rfl (fun ws e => by cases e; exact ⟨by rw [List.length_map]; unfold lim; omega, fun x hx => by obtain ⟨i, _, rfl⟩ := List.mem_map.mp hx; rfl⟩) ?_
  cases hc : areN (.tup (cs.map .int)) xs.length 0 1000000000000 with
  | false => rw [hc] at q; simpa using q
  | true =>
    rw [hc] at q
    simp [getB, bor, isOwned, e1, e3]
    refine s_under e2 hx ha ?_
    simp
    rw [undL_eq]
    refine s_showsGain e4 hx.t2 hx.t4 (by rw [undOL_length]; have := hx.l; omega) (cs := cs) rfl (undOL_ok acts hx.e) ?_
    have q' : Q (.bl (gainU t xs acts cs), false) s := by simpa using q
    cases hg : showsB t (undOL acts 0 xs) cs with
    | true => rw [show gainU t xs acts cs = true from hg] at q'; simpa using q'
    | false => rw [show gainU t xs acts cs = false from hg] at q'; simpa using q'

theorem undOL_nil (xs : List Ech) : ∀ k : Nat, undOL [] k xs = xs.map fun x => some (netI x) := by
  induction xs with
  | nil => intro k; rfl
  | cons x xs ih =>
    intro k
    unfold undOL
    rw [ih (k + 1), List.map_cons]
    rfl
structure GainPlain (Γ : Gam) (n : Nat) : Prop where
  nd : NeedOk Γ n
  h : ∃ Γ15 Γ14 Γ53 Γ48 : Gam, Γ.fn 15 = some (run Γ15 n D_all_nets) ∧ Γ15.fn 14 = some (run Γ14 n D_net_of) ∧ Γ.fn 53 = some (run Γ53 n D_shows_gain) ∧ Γ53.fn 48 = some (run Γ48 n D_net_sum)
  c : ∃ Γ25 Γ1 Γ0 : Gam, Γ.fn 25 = some (run Γ25 n D_are_counts) ∧ Γ25.fn 1 = some (run Γ1 n D_are_numbers) ∧ Γ1.fn 0 = some (run Γ0 n D_is_integer)
theorem s_allNetsP {Γ Γ14 : Gam} {n : Nat} (h14 : Γ.fn 14 = some (run Γ14 n D_net_of)) {t : Nat} {xs : List Ech} (hx : BOk t xs) {s : S} {Q : PV × Bool → S → Prop} (q : Q (.lst ((undOL [] 0 xs).map oNet), true) s) : Ok (run Γ n D_all_nets [brd t xs]) s Q := by
  refine ok_run rfl ?_
  have hxl := hx.l
  simp [D_all_nets, c_ret, getB, freezeAll]
  refine ⟨by unfold lim; omega, ok_mapF (g := fun x => oNet (some (netI x))) (fun x hxm Qo q => ?_) ?_⟩
  · simp [o_compF, asgT_name, getB, bor, isOwned, h14, exv]
    have he := hx.e x hxm
    have ht4 := hx.t4
    exact s_netO (by rw [he.l1]; omega) q
  · rw [undOL_nil, List.map_map] at q
    simpa [Function.comp_def] using q
theorem s_isGain {Γ : Gam} {n : Nat} (h : GainPlain Γ n) {t : Nat} {xs : List Ech} (hx : BOk t xs) {cs : List Int} (hcl : cs.length ≤ 1000) {s : S} {Q : PV × Bool → S → Prop}
    (q : Q (.bl (areN (.tup (cs.map .int)) xs.length 0 1000000000000 && gainU t xs [] cs), false) s) : Ok (run Γ n D_is_gain [brd t xs, .tup (cs.map .int)]) s Q := by
  obtain ⟨Γ15, Γ14, Γ53, Γ48, e1, e2, e3, e4⟩ := h.h
  obtain ⟨Γ25, Γ1, Γ0, e5, e6, e7⟩ := h.c
  refine ok_run rfl ?_
  show Ok (exCs Γ n (dropC 0 D_is_gain.body) [some (brd t xs, false), some (.tup (cs.map .int), false)]) _ _
  refine ok_step (c := .expr (.call 13 (.cons (.var 0) .nil))) rfl ?_
  simp [getB, bor, isOwned]
  refine o_need h.nd hx ?_
  try rw [nxt_next]
  refine ok_step (c := .ret (.and (.cons (.call 25 (.cons (.var 0) (.cons (.var 1) .nil))) (.cons (.call 53 (.cons (.idx (.var 0) (.int 0)) (.cons (.call 15 (.cons (.var 0) .nil)) (.cons (.var 1) .nil)))) .nil)))) rfl ?_
  rw [c_ret (by simp)]
  simp [getB, freezeAll, bor, isOwned, e5]
  refine s_counts e6 e7 rfl (fun ws e => by cases e; exact ⟨by rw [List.length_map]; unfold lim; omega, fun x hx => by obtain ⟨i, _, rfl⟩ := List.mem_map.mp hx; rfl⟩) ?_
  cases hc : areN (.tup (cs.map .int)) xs.length 0 1000000000000 with
  | false => rw [hc] at q; simpa using q
  | true =>
    rw [hc] at q
    simp [getB, bor, isOwned, e1, e3]
    refine s_allNetsP e2 hx ?_
    simp
    refine s_showsGain e4 hx.t2 hx.t4 (by rw [undOL_length]; have := hx.l; omega) (cs := cs) rfl (undOL_ok [] hx.e) ?_
    have q' : Q (.bl (gainU t xs [] cs), false) s := by simpa using q
    cases hg : showsB t (undOL [] 0 xs) cs with
    | true => rw [show gainU t xs [] cs = true from hg] at q'; simpa using q'
    | false => rw [show gainU t xs [] cs = false from hg] at q'; simpa using q'

/-! ### the law's own sums -/
theorem ok_forMB {α : Type} {Qc : Fl × Envi → S → Prop} {t : Tg} {b : Envi → M (Fl × Envi)} {f : α → PV} (I : List α → Envi → S → Prop) {B : Nat} {ys zs : List α} {env : Envi} {s : S} (hB : zs.length + ys.length ≤ B) (h0 : I zs env s)
    (h : ∀ y ∈ ys, ∀ zs env s, zs.length < B → I zs env s → Ok (ofO (asgT t (f y) env)) s (fun env' s' => Ok (b env') s' (fun r s' => match r.1 with | .next => I (zs ++ [y]) r.2 s' | .ret x f => Qc (.ret x f, r.2) s')))
    (q : ∀ env s', I (zs ++ ys) env s' → Qc (.next, env) s') : Ok (forN t b (ys.map f) env) s Qc := by
  induction ys generalizing env s zs with
  | nil => exact q env s (by simpa using h0)
  | cons y ys ih =>
    rw [List.length_cons] at hB
    rw [List.map_cons]
    unfold forN
    rw [ok_bind]
    refine (h y List.mem_cons_self zs env s (by omega) h0).mono fun env' s' hb => ?_
    rw [ok_bind]
    refine hb.mono fun r s'' hr => ?_
    obtain ⟨g, e⟩ := r
    cases g with
    | next => exact ih (by rw [List.length_append]; simp; omega) hr (fun z hz => h z (List.mem_cons_of_mem _ hz)) fun e s' hi => q e s' (by simpa using hi)
    | ret x f => exact hr
theorem s_lawNets {Γ : Gam} {n : Nat} {t : Nat} {xs : List Ech} (hxl : xs.length ≤ 1000) (hl : ∀ x ∈ xs, x.1.length ≤ 100) {s : S} {Q : PV × Bool → S → Prop} (q : Q (.lst (xs.map fun x => .tup ((netI x).map .int)), true) s) : Ok (run Γ n D__law_nets [brd t xs]) s Q := by
  refine ok_run rfl ?_
  simp only [D__law_nets, c_cons, c_asgN, o_lst, o_esN, nxt_next, List.map_cons, List.map_nil]
  simp [freezeIt, getB]
  refine ok_forMB (f := exv) (B := 1000) (fun zs env s' => s' = s ∧ ∃ y2 y3 y4 y5, env = [some (brd t xs, false), some (.lst (zs.map fun x => PV.tup ((netI x).map .int)), true), y2, y3, y4, y5]) (zs := []) (by simpa using hxl) ⟨rfl, none, none, none, none, rfl⟩ (fun x hxm zs env s' hzl hI => ?_) (fun env s' hI => ?_)
  · obtain ⟨rfl, y2, y3, y4, y5, rfl⟩ := hI
    have hx1 := hl x hxm
    have ez : zipW2 (x.1.map PV.int) (x.2.map PV.int) = (x.1.zip x.2).map fun p => .tup [.int p.1, .int p.2] := zipW2_map _ _
    simp only [exv, asgT_tup, asgT_name, asgTs_nil, asgTs_cons, ok_some, List.set_cons_succ, List.set_cons_zero, c_cons]
    refine c_app (xs := zs.map fun x => PV.tup ((netI x).map .int)) rfl (by rw [List.length_map]; unfold lim; omega) ?_
    simp [getB]
    rw [ez]
    refine ⟨by rw [List.length_map, List.length_zip]; unfold lim; omega, ok_mapF (g := fun p => .int (p.2 - p.1)) (fun p _ Qo q => ?_) ?_⟩
    · simp [o_compF, asgT_tup, asgT_name, asgTs_nil, asgTs_cons, getB]
      exact q
    · simp [netI_eq, Function.comp_def]
  · obtain ⟨rfl, y2, y3, y4, y5, rfl⟩ := hI
    simp
    exact q
theorem s_lawSum {Γ : Gam} {n : Nat} {t : Nat} (h4 : t ≤ 4) {ws : List (List Int)} {cs : List Int} {v2 : PV} (e2 : seqOf v2 = some (cs.map .int)) (hwl : ws.length ≤ 1000) (hw : ∀ w ∈ ws, w.length = t ∧ ∀ i ∈ w, -5 ≤ i ∧ i ≤ 5) {s : S} {Q : PV × Bool → S → Prop}
    (q : Q (.lst (((List.range t).map (colS (ws.zip cs))).map .int), true) s) : Ok (run Γ n D__law_sum [.int t, .lst (ws.map fun w => .tup (w.map .int)), v2]) s Q := by
  refine ok_run rfl ?_
  have hr : rngOk 0 (t : Int) = true := by
    unfold rngOk lim
    simp only [Bool.and_eq_true, decide_eq_true_eq]
    omega
  have ez : zipW2 (ws.map fun w => PV.tup (w.map .int)) (cs.map .int) = (ws.zip cs).map rowT := zipW2_map _ _
  have hrw : rangeW 0 (t : Int) = (List.range t).map fun j : Nat => PV.int j := by
    unfold rangeW
    simp
  have hzl : (ws.zip cs).length ≤ lim := by rw [List.length_zip]; unfold lim; omega
  simp [D__law_sum, c_ret, getB, freezeAll, hr, hrw]
  refine ⟨by unfold lim; omega, ok_mapF (k := fun j : Nat => PV.int j) (g := fun j => .int (colS (ws.zip cs) j)) (fun j hj Qo q => ?_) ?_⟩
  · have hjt := List.mem_range.mp hj
    simp [o_compF, asgT_name, getB, e2]
    rw [ez]
    simp
    refine ⟨by rw [List.length_zip] at hzl; exact hzl, ok_mapF (g := fun p => .int (p.1.getD j 0 * p.2)) (fun p hp Qo q => ?_) ?_⟩
    · have hw1 := hw p.1 (List.of_mem_zip hp).1
      have hj1 : j < p.1.length := by rw [hw1.1]; exact hjt
      have hb := hw1.2 p.1[j] (List.getElem_mem _)
      simp [o_compF, rowT, asgT_tup, asgT_name, asgTs_nil, asgTs_cons, getB]
      rw [at_nat (xs := p.1.map PV.int) (i := j) (by rw [List.length_map]; exact hj1)]
      simp
      rw [bin_mulI' (by omega)]
      simp
      simpa [hj1] using q
    · rw [sum_lst (intsOf_map (f := fun p : List Int × Int => p.1.getD j 0 * p.2))]
      simp
      simpa [colS] using q
  · simp [Function.comp_def] at q ⊢
    exact q

theorem s_lawShows {Γ Γ58 : Gam} {n : Nat} (h58 : Γ.fn 58 = some (run Γ58 n D__law_sum)) {t : Nat} (h2 : 2 ≤ t) (h4 : t ≤ 4) {ws : List (List Int)} {cs : List Int} {v2 : PV} (e2 : seqOf v2 = some (cs.map .int)) (hwl : ws.length ≤ 1000) (hw : ∀ w ∈ ws, w.length = t ∧ ∀ i ∈ w, -5 ≤ i ∧ i ≤ 5) {s : S} {Q : PV × Bool → S → Prop}
    (q : Q (.bl (showB ((List.range t).map (colS (ws.zip cs)))), false) s) : Ok (run Γ n D__law_shows [.int t, .lst (ws.map fun w => .tup (w.map .int)), v2]) s Q := by
  refine ok_run rfl ?_
  show Ok (exCs Γ n (dropC 0 D__law_shows.body) [some (.int t, false), some (.lst (ws.map fun w => .tup (w.map .int)), false), some (v2, false), none]) _ _
  refine ok_step (c := .asgz 3 (.call 58 (.cons (.var 0) (.cons (.var 1) (.cons (.var 2) .nil))))) rfl ?_
  simp [getB, bor, isOwned, h58]
  refine s_lawSum h4 e2 hwl hw ?_
  refine ok_step (c := .ret (.and (.cons (.cmp .ge (.blt .min (.cons (.var 3) .nil)) (.int 0)) (.cons (.cmp .gt (.blt .max (.cons (.var 3) .nil)) (.int 0)) .nil)))) rfl ?_
  rw [c_ret (by simp)]
  obtain ⟨i, is, hi⟩ : ∃ i is, (List.range t).map (colS (ws.zip cs)) = i :: is := by
    cases hl : (List.range t).map (colS (ws.zip cs)) with
    | nil => have := congrArg List.length hl; simp at this; omega
    | cons i is => exact ⟨i, is, rfl⟩
  rw [hi] at q ⊢
  have emin : bltop .min [.lst ((i :: is).map .int)] = some (.int (imin i is), false) := by
    show (match intsOf ((i :: is).map .int) with | some (i :: is) => some (PV.int (imin i is), false) | _ => none) = _
    rw [intsOf_ints]
  have emax : bltop .max [.lst ((i :: is).map .int)] = some (.int (imax i is), false) := by
    show (match intsOf ((i :: is).map .int) with | some (i :: is) => some (PV.int (imax i is), false) | _ => none) = _
    rw [intsOf_ints]
  rw [List.map_cons] at emin emax ⊢
  simp [getB, freezeAll, emin, emax]
  by_cases h0 : 0 ≤ imin i is
  · simp [showB, h0] at q
    simp [h0]
    by_cases h1 : 0 < imax i is
    · simpa [h1] using q
    · simpa [h1] using q
  · simp [showB, h0] at q
    simp [h0, q]
theorem eqB_bools {a b : Bool} : (PV.bl a).eq? (.bl b) = some (a == b) := by cases a <;> cases b <;> kernel_rfl
theorem s_same {Γ : Gam} {n : Nat} {a b : Bool} {s : S} {Q : PV × Bool → S → Prop} (q : Q (.bl (a == b), false) s) : Ok (run Γ n D__law_same_truth [.bl a, .bl b]) s Q := by
  refine ok_run rfl ?_
  simp [D__law_same_truth, c_ret, getB, freezeAll, tyOf, cmpop, eqB_bools]
  cases a <;> cases b <;> exact q

/-! ### both sums agree -/
def lawR (acts : List Act) : Nat → List Ech → List (Ech × Nat)
  | _, [] => []
  | k, x :: xs => if Act.bar k ∈ acts then lawR acts (k + 1) xs else ((x.1, lawG acts k 0 x.2), k) :: lawR acts (k + 1) xs
theorem foldU_eq (acts : List Act) : ∀ (xs : List Ech) (k : Nat) (z : List Ech × List Nat), foldE (stepU acts) k xs z = (z.1 ++ (lawR acts k xs).map (·.1), z.2 ++ (lawR acts k xs).map (·.2))
  | [], _, z => by unfold foldE lawR; simp
  | x :: xs, k, z => by
    unfold foldE lawR
    rw [foldU_eq acts xs]
    unfold stepU
    by_cases h : Act.bar k ∈ acts
    · simp [h]
    · simp [h]
theorem lawU_eq (acts : List Act) (xs : List Ech) : lawU acts xs = ((lawR acts 0 xs).map (·.1), (lawR acts 0 xs).map (·.2)) := by
  unfold lawU
  rw [foldU_eq]
  simp
theorem colS_cons (p : List Int × Int) (ps : List (List Int × Int)) (j : Nat) : colS (p :: ps) j = p.1.getD j 0 * p.2 + colS ps j := by
  unfold colS
  simp
theorem sums_agree {t : Nat} (acts : List Act) (cs : List Int) (j : Nat) (hj : j < t) : ∀ (xs : List Ech) (k : Nat), (∀ x ∈ xs, EOk t x) → k + xs.length = cs.length →
    colS (((undOL acts k xs).map (filled t)).zip (cs.drop k)) j = colS (((lawR acts k xs).map fun p => netI p.1).zip ((lawR acts k xs).map fun p => cs.getD p.2 0)) j
  | [], k, _, _ => by simp [undOL, lawR, colS]
  | x :: xs, k, hx, hl => by
    have hk : k < cs.length := by rw [List.length_cons] at hl; omega
    have he := hx x List.mem_cons_self
    have ih := sums_agree acts cs j hj xs (k + 1) (fun y hy => hx y (List.mem_cons_of_mem _ hy)) (by rw [List.length_cons] at hl; omega)
    rw [List.drop_eq_getElem_cons hk]
    unfold undOL lawR
    rw [List.map_cons, List.zip_cons_cons, colS_cons, ih]
    by_cases hb : Act.bar k ∈ acts
    · have : (List.replicate t (0 : Int)).getD j 0 = 0 := by simp [hj]
      have e0 : filled t (undO acts k x) = List.replicate t 0 := by unfold undO; rw [if_pos hb]; rfl
      rw [if_pos hb, e0, this]
      simp
    · rw [if_neg hb, List.map_cons, List.map_cons, List.zip_cons_cons, colS_cons]
      have e : filled t (undO acts k x) = netI (x.1, lawG acts k 0 x.2) := by
        unfold undO
        rw [if_neg hb, gU_law acts k fun c hc => (he.b2 c hc).1]
        rfl
      rw [e]
      simp [hk]

theorem any_agree (acts : List Act) (cs : List Int) : ∀ (xs : List Ech) (k : Nat), k + xs.length = cs.length → ((undOL acts k xs).zip (cs.drop k)).any (fun p => decide (0 < p.2) && p.1.isNone) = (List.range' k xs.length).any fun i => decide (0 < cs.getD i 0) && decide (Act.bar i ∈ acts)
  | [], k, _ => by simp [undOL]
  | x :: xs, k, hl => by
    have hk : k < cs.length := by rw [List.length_cons] at hl; omega
    have ih := any_agree acts cs xs (k + 1) (by rw [List.length_cons] at hl; omega)
    rw [List.drop_eq_getElem_cons hk]
    unfold undOL
    rw [List.zip_cons_cons, List.any_cons, ih, List.length_cons, List.range'_succ, List.any_cons]
    congr 1
    unfold undO
    by_cases hb : Act.bar k ∈ acts
    · simp [hb, hk]
    · simp [hb]
theorem kept_mem (acts : List Act) (i : Nat) : ∀ (xs : List Ech) (k : Nat), i ∈ (lawR acts k xs).map (·.2) ↔ k ≤ i ∧ i < k + xs.length ∧ Act.bar i ∉ acts
  | [], k => by simp [lawR]; omega
  | x :: xs, k => by
    unfold lawR
    have ih := kept_mem acts i xs (k + 1)
    by_cases hb : Act.bar k ∈ acts
    · rw [if_pos hb, ih, List.length_cons]
      constructor
      · rintro ⟨h1, h2, h3⟩; exact ⟨by omega, by omega, h3⟩
      · rintro ⟨h1, h2, h3⟩
        have : i ≠ k := fun e => h3 (e ▸ hb)
        exact ⟨by omega, by omega, h3⟩
    · rw [if_neg hb, List.map_cons, List.mem_cons, ih, List.length_cons]
      constructor
      · rintro (rfl | ⟨h1, h2, h3⟩)
        · exact ⟨Nat.le_refl _, by omega, hb⟩
        · exact ⟨by omega, by omega, h3⟩
      · rintro ⟨h1, h2, h3⟩
        by_cases e : i = k
        · exact .inl e
        · exact .inr ⟨by omega, by omega, h3⟩

theorem imin_nonneg : ∀ (xs : List Int) (m : Int), 0 ≤ imin m xs ↔ 0 ≤ m ∧ ∀ x ∈ xs, 0 ≤ x
  | [], m => by simp [imin]
  | x :: xs, m => by
    unfold imin
    rw [imin_nonneg xs]
    simp only [List.mem_cons, forall_eq_or_imp]
    constructor
    · rintro ⟨h1, h2⟩
      split at h1 <;> exact ⟨by omega, by omega, h2⟩
    · rintro ⟨h1, h2, h3⟩
      exact ⟨by split <;> omega, h3⟩
theorem imax_pos : ∀ (xs : List Int) (m : Int), 0 < imax m xs ↔ 0 < m ∨ ∃ x ∈ xs, 0 < x
  | [], m => by simp [imax]
  | x :: xs, m => by
    unfold imax
    rw [imax_pos xs]
    simp only [List.mem_cons, exists_eq_or_imp]
    constructor
    · rintro (h1 | h2)
      · split at h1
        · exact .inr (.inl h1)
        · exact .inl h1
      · exact .inr (.inr h2)
    · rintro (h1 | h2 | h3)
      · exact .inl (by split <;> omega)
      · exact .inl (by split <;> omega)
      · exact .inr h3
theorem showB_iff (l : List Int) : showB l = true ↔ (∀ x ∈ l, 0 ≤ x) ∧ ∃ x ∈ l, 0 < x := by
  cases l with
  | nil => simp [showB]
  | cons i is =>
    simp only [showB, Bool.and_eq_true, decide_eq_true_eq, imin_nonneg, imax_pos, List.mem_cons, forall_eq_or_imp, exists_eq_or_imp]

theorem colS_le {t : Nat} (acts : List Act) (cs : List Int) (hc : ∀ c ∈ cs, 0 ≤ c) (j : Nat) (hj : j < t) : ∀ (xs : List Ech) (k : Nat), (∀ x ∈ xs, EOk t x) → k + xs.length = cs.length →
    ((undOL acts k xs).zip (cs.drop k)).any (fun p => decide (0 < p.2) && p.1.isNone) = false →
    colS (((undOL acts k xs).map (filled t)).zip (cs.drop k)) j ≤ colS (((undOL [] k xs).map (filled t)).zip (cs.drop k)) j
  | [], k, _, _, _ => by simp [undOL, colS]
  | x :: xs, k, hx, hl, ha => by
    have hk : k < cs.length := by rw [List.length_cons] at hl; omega
    have he := hx x List.mem_cons_self
    rw [List.drop_eq_getElem_cons hk] at ha ⊢
    unfold undOL at ha ⊢
    rw [List.zip_cons_cons, List.any_cons, Bool.or_eq_false_iff] at ha
    have ih := colS_le acts cs hc j hj xs (k + 1) (fun y hy => hx y (List.mem_cons_of_mem _ hy)) (by rw [List.length_cons] at hl; omega) ha.2
    rw [List.map_cons, List.zip_cons_cons, colS_cons, List.map_cons, List.zip_cons_cons, colS_cons]
    have hc0 := hc cs[k] (List.getElem_mem _)
    have h1 : (filled t (undO acts k x)).getD j 0 * cs[k] ≤ (filled t (undO [] k x)).getD j 0 * cs[k] := by
      by_cases hb : Act.bar k ∈ acts
      · have h0 : cs[k] = 0 := by
          have := ha.1
          simp [undO, hb] at this
          omega
        rw [h0, Int.mul_zero, Int.mul_zero]
        exact Int.le_refl 0
      · refine Int.mul_le_mul_of_nonneg_right ?_ hc0
        have e1 : filled t (undO acts k x) = netI (x.1, lawG acts k 0 x.2) := by
          unfold undO
          rw [if_neg hb, gU_law acts k fun c hc => (he.b2 c hc).1]
          rfl
        have e2 : filled t (undO [] k x) = netI x := rfl
        rw [e1, e2, netI_eq, netI_eq]
        have hj1 : j < x.1.length := by rw [he.l1]; exact hj
        have hj2 : j < x.2.length := by rw [he.l2]; exact hj
        have hg : (lawG acts k 0 x.2)[j]? = some (capF acts k j x.2[j]) := by rw [lawG_get, List.getElem?_eq_getElem hj2, Nat.zero_add]; rfl
        have hf := fees_nonneg k j acts
        have h2 := (he.b2 x.2[j] (List.getElem_mem _)).1
        have hcap : capF acts k j x.2[j] ≤ x.2[j] := by
          unfold capF feesOf
          split <;> omega
        simp [List.getElem?_zip_eq_some, List.getD_eq_getElem?_getD, List.getElem?_map, List.zip, List.getElem?_zipWith, hg, hj1, hj2]
        omega
    exact Int.add_le_add h1 ih

theorem undOL_nil_any (xs : List Ech) (cs : List Int) : ((undOL [] 0 xs).zip cs).any (fun p => decide (0 < p.2) && p.1.isNone) = false := by
  rw [undOL_nil, List.any_eq_false]
  intro p hp
  have := (List.of_mem_zip hp).1
  obtain ⟨x, _, e⟩ := List.mem_map.mp this
  rw [← e]
  simp
theorem gain_mono {t : Nat} {xs : List Ech} (hx : BOk t xs) (acts : List Act) {cs : List Int} (hc : ∀ c ∈ cs, 0 ≤ c) (hl : xs.length = cs.length) (h : gainU t xs acts cs = true) : gainU t xs [] cs = true := by
  unfold gainU showsB at h ⊢
  rw [Bool.and_eq_true, Bool.not_eq_true'] at h ⊢
  obtain ⟨h1, h2⟩ := h
  refine ⟨undOL_nil_any xs cs, ?_⟩
  rw [showB_iff] at h2 ⊢
  have hle : ∀ j, j < t → colS (((undOL acts 0 xs).map (filled t)).zip cs) j ≤ colS (((undOL [] 0 xs).map (filled t)).zip cs) j := fun j hj => by
    have := colS_le acts cs hc j hj xs 0 hx.e (by omega) (by rw [List.drop_zero]; exact h1)
    rwa [List.drop_zero] at this
  refine ⟨fun x hxm => ?_, ?_⟩
  · obtain ⟨j, hj, rfl⟩ := List.mem_map.mp hxm
    have h3 := h2.1 _ (List.mem_map_of_mem hj)
    exact Int.le_trans h3 (hle j (List.mem_range.mp hj))
  · obtain ⟨y, hy, hy0⟩ := h2.2
    obtain ⟨j, hj, rfl⟩ := List.mem_map.mp hy
    exact ⟨_, List.mem_map_of_mem hj, Int.lt_of_lt_of_le hy0 (hle j (List.mem_range.mp hj))⟩
/-- what the law expects -/
def barredL (xs : List Ech) (acts : List Act) (cs : List Int) : List Nat := (List.range xs.length).filter fun i => decide (0 < cs.getD i 0) && decide (i ∉ (lawU acts xs).2)
def dueB (t : Nat) (xs : List Ech) (acts : List Act) (cs : List Int) : Bool := (barredL xs acts cs).isEmpty && showB ((List.range t).map (colS (((lawU acts xs).1.map netI).zip ((lawU acts xs).2.map fun k => cs.getD k 0))))
theorem due_eq {t : Nat} {xs : List Ech} (hx : BOk t xs) (acts : List Act) {cs : List Int} (hl : xs.length = cs.length) : dueB t xs acts cs = gainU t xs acts cs := by
  unfold dueB gainU showsB
  have e1 : (barredL xs acts cs).isEmpty = !((undOL acts 0 xs).zip cs).any (fun p => decide (0 < p.2) && p.1.isNone) := by
    have := any_agree acts cs xs 0 (by omega)
    rw [List.drop_zero] at this
    rw [this, Bool.eq_iff_iff, List.isEmpty_iff, Bool.not_eq_true', List.any_eq_false]
    unfold barredL
    rw [List.filter_eq_nil_iff]
    have hk : ∀ i, i < xs.length → (i ∉ (lawU acts xs).2 ↔ Act.bar i ∈ acts) := fun i hi => by
      rw [lawU_eq, kept_mem]
      constructor
      · intro h
        by_cases hb : Act.bar i ∈ acts
        · exact hb
        · exact absurd ⟨Nat.zero_le _, by omega, hb⟩ h
      · rintro hb ⟨_, _, h⟩
        exact h hb
    constructor
    · intro h i hi
      have hi' : i < xs.length := by simpa [List.mem_range'] using hi
      have := h i (List.mem_range.mpr hi')
      simpa [hk i hi'] using this
    · intro h i hi
      have hi' := List.mem_range.mp hi
      have := h i (by simpa [List.mem_range'] using hi')
      simpa [hk i hi'] using this
  rw [e1]
  congr 2
  apply List.map_congr_left
  intro j hj
  have := sums_agree acts cs j (List.mem_range.mp hj) xs 0 hx.e (by omega)
  rw [List.drop_zero] at this
  rw [this, lawU_eq, List.map_map, List.map_map]
  rfl

theorem ok_mapFl {β : Type} {f : PV → M (Option PV)} {k g : β → PV} {p : β → Bool} {ys : List β} {s : S} {Qs : List PV → S → Prop} (h : ∀ y ∈ ys, ∀ Qo : Option PV → S → Prop, Qo (if p y = true then some (g y) else none) s → Ok (f (k y)) s Qo) (q : Qs ((ys.filter p).map g) s) : Ok (mapMx f (ys.map k)) s Qs := by
  induction ys generalizing Qs with
  | nil => exact q
  | cons y ys ih =>
    rw [List.map_cons]
    unfold mapMx
    rw [ok_bind]
    refine h y List.mem_cons_self _ ?_
    rw [ok_bind]
    refine ih (fun z hz => h z (List.mem_cons_of_mem _ hz)) ?_
    rw [List.filter_cons] at q
    cases e : p y with
    | true => rw [if_pos e, List.map_cons] at q; rw [if_pos rfl]; exact q
    | false => rw [if_neg (by rw [e]; decide)] at q; rw [if_neg (by decide)]; exact q
theorem rangeW_nat (n : Nat) : rangeW 0 (n : Int) = (List.range n).map nPV := by
  unfold rangeW nPV
  simp
theorem nPV_ds : ∀ ks : List Nat, PV.toDs (ks.map nPV) = some (ks.map fun (k : Nat) => PyData.int (k : Int))
  | [] => rfl
  | k :: ks => by
    show (match PV.toD (nPV k), PV.toDs (ks.map nPV) with | some d, some ds => some (d :: ds) | _, _ => none) = _
    rw [nPV_ds ks]; rfl
theorem shaped_nats (ks : List Nat) : SeqAt.shaped (.list (ks.map fun (k : Nat) => PyData.int (k : Int))) = true := by
  have := shaped_ints (ks.map fun (k : Nat) => (k : Int))
  rw [List.map_map] at this
  exact this
theorem nats_any (i : Nat) (ks : List Nat) : ((ks.map fun (k : Nat) => PyData.int (k : Int)).any fun z => PyData.eqv z (.int (i : Int))) = decide (i ∈ ks) := by
  induction ks with
  | nil => rfl
  | cons k ks ih =>
    rw [List.map_cons, List.any_cons, ih]
    have : PyData.eqv (.int (k : Int)) (.int (i : Int)) = decide ((k : Int) = (i : Int)) := rfl
    rw [this]
    by_cases e : i = k
    · subst e; simp
    · have : ¬ ((k : Int) = (i : Int)) := by omega
      simp [this, e]
theorem in_nats (i : Nat) (ks : List Nat) : cmpop .isin (.int (i : Int)) (.lst (ks.map nPV)) = some (decide (i ∈ ks)) := by
  show (match PV.toD (.int (i : Int)), PV.toDs (ks.map nPV) with | some d, some ds => if SeqAt.shaped d && SeqAt.shaped (.list ds) then some (ds.any fun z => PyData.eqv z d) else none | _, _ => none) = _
  rw [nPV_ds]
  show (if SeqAt.shaped (.int (i : Int)) && SeqAt.shaped (.list (ks.map fun (k : Nat) => PyData.int (k : Int))) then some ((ks.map fun (k : Nat) => PyData.int (k : Int)).any fun z => PyData.eqv z (.int (i : Int))) else none) = _
  rw [shaped_nats, nats_any]; rfl
theorem notin_nats (i : Nat) (ks : List Nat) : cmpop .notin (.int (i : Int)) (.lst (ks.map nPV)) = some (!decide (i ∈ ks)) := by
  rw [show cmpop .notin (.int (i : Int)) (.lst (ks.map nPV)) = onot (cmpop .isin (.int (i : Int)) (.lst (ks.map nPV))) from rfl, in_nats]; rfl
theorem eq_nats_nil (ks : List Nat) : cmpop .eq (.lst (ks.map nPV)) (.lst []) = some ks.isEmpty := by
  show (match PV.toD (.lst (ks.map nPV)), PV.toD (.lst []) with | some d, some e => if SeqAt.shaped d && SeqAt.shaped e then some (PyData.eqv d e) else none | _, _ => none) = _
  have : PV.toD (.lst (ks.map nPV)) = some (.list (ks.map fun (k : Nat) => PyData.int (k : Int))) := by
    show (match PV.toDs (ks.map nPV) with | some ds => some (PyData.list ds) | none => none) = _
    rw [nPV_ds]
  rw [this]
  show (if SeqAt.shaped (.list (ks.map fun (k : Nat) => PyData.int (k : Int))) && SeqAt.shaped (.list []) then some (PyData.eqv (.list (ks.map fun (k : Nat) => PyData.int (k : Int))) (.list [])) else none) = _
  rw [shaped_nats]
  cases ks <;> rfl
theorem ints_pairs {α : Type} {lo hi : Int} {xs : List α} {ys : List PV} (hl : ys.length = xs.length) (h : ∀ p ∈ xs.zip ys, ∃ i : Int, p.2 = .int i ∧ lo ≤ i ∧ i ≤ hi) : ∃ is : List Int, ys = is.map .int ∧ is.length = xs.length ∧ ∀ i ∈ is, lo ≤ i ∧ i ≤ hi := by
  induction xs generalizing ys with
  | nil => 
    have : ys = [] := List.length_eq_zero_iff.mp hl
    subst this
    exact ⟨[], rfl, rfl, fun _ h => (nomatch h)⟩
  | cons x xs ih =>
    cases ys with
    | nil => cases hl
    | cons y ys =>
      obtain ⟨i, e, h1⟩ := h (x, y) (by simp)
      obtain ⟨is, rfl, h2, h3⟩ := ih (by simpa using hl) fun p hp => h p (by simp [hp])
      exact ⟨i :: is, by simp at e; rw [e]; rfl, by simp [h2], fun j hj => (List.mem_cons.mp hj).elim (fun e => e ▸ h1) (h3 j)⟩
def bodyOf : Cmd → Cmds
  | .fors _ _ b => b | .whl _ b => b | .forf _ _ _ b => b | .ifs _ a _ => a | .tryw b => b | _ => .nil
def elseOf : Cmd → Cmds
  | .ifs _ _ b => b | _ => .nil
theorem at_0 {α : Type} {x : α} {xs : List α} : at? (x :: xs) 0 = some x := at_nat (i := 0) (by simp)
theorem at_1 {α : Type} {x y : α} {xs : List α} : at? (x :: y :: xs) 1 = some y := at_nat (i := 1) (by simp)
theorem at_2 {α : Type} {x y z : α} {xs : List α} : at? (x :: y :: z :: xs) 2 = some z := at_nat (i := 2) (by simp)
theorem at_3 {α : Type} {x y z u : α} {xs : List α} : at? (x :: y :: z :: u :: xs) 3 = some u := at_nat (i := 3) (by simp)
theorem at_last {α : Type} {x : α} {xs : List α} : at? (xs ++ [x]) (-1) = some x := by
  unfold at? ixN
  rw [if_neg (by decide), if_pos (by simp; omega)]
  have : (-1 + ((xs ++ [x]).length : Int)).toNat = xs.length := by simp; omega
  simp only [this]
  simp
section
variable {f : Blt} {s : S} {Q : PV × Bool → S → Prop} {ys : List PV}
theorem o_bltT {xs : List PV} : Ok (blt f (.tup xs :: ys)) s Q = Ok (ofO (bltop f (.tup xs :: ys))) s Q := o_blt' (by simp)
theorem o_bltL {xs : List PV} : Ok (blt f (.lst xs :: ys)) s Q = Ok (ofO (bltop f (.lst xs :: ys))) s Q := o_blt' (by simp)
theorem o_bltI {i : Int} : Ok (blt f (.int i :: ys)) s Q = Ok (ofO (bltop f (.int i :: ys))) s Q := o_blt' (by simp)
theorem o_bltC {xs : List Int} : Ok (blt f (.scr xs :: ys)) s Q = Ok (ofO (bltop f (.scr xs :: ys))) s Q := o_blt' (by simp)
theorem o_bltS {x : Str} : Ok (blt f (.str x :: ys)) s Q = Ok (ofO (bltop f (.str x :: ys))) s Q := o_blt' (by simp)
end

theorem mul_tup1 (v : PV) {k : Nat} (h : k ≤ 10) : binop .mul (.tup [v]) (.int (k : Int)) = some (.tup (List.replicate k v), false) := by
  show (if repOk (k : Int) 1 then some (PV.tup (rep (k : Int) [v]), false) else none) = _
  have h1 : repOk (k : Int) 1 = true := by unfold repOk; simp; omega
  rw [if_pos h1]
  unfold rep
  simp
theorem mul_lst1 (v : PV) {k : Nat} (h : k ≤ 10) : binop .mul (.lst [v]) (.int (k : Int)) = some (.lst (List.replicate k v), true) := by
  show (if repOk (k : Int) 1 then some (PV.lst (rep (k : Int) [v]), true) else none) = _
  have h1 : repOk (k : Int) 1 = true := by unfold repOk; simp; omega
  rw [if_pos h1]
  unfold rep
  simp
theorem colS_zero (ws : List (List Int)) (k j : Nat) : colS (ws.zip (List.replicate k 0)) j = 0 := by
  unfold colS
  have : ∀ (ws : List (List Int)) (k : Nat), ((ws.zip (List.replicate k (0 : Int))).map fun p => p.1.getD j 0 * p.2).sum = 0 := fun ws => by
    induction ws with
    | nil => intro k; rfl
    | cons w ws ih =>
      intro k
      cases k with
      | zero => rfl
      | succ k =>
        rw [List.replicate_succ, List.zip_cons_cons, List.map_cons, List.sum_cons, ih]
        simp
  exact this ws k
theorem gainU_zero (t : Nat) (xs : List Ech) (acts : List Act) (k : Nat) : gainU t xs acts (List.replicate k 0) = false := by
  unfold gainU showsB
  cases h : showB ((List.range t).map (colS (((undOL acts 0 xs).map (filled t)).zip (List.replicate k 0)))) with
  | false => simp
  | true =>
    obtain ⟨_, x, hx, h0⟩ := (showB_iff _).mp h
    obtain ⟨j, _, rfl⟩ := List.mem_map.mp hx
    rw [colS_zero] at h0
    exact absurd h0 (by decide)
theorem s_isGainUnderX {Γ : Gam} {n : Nat} (h : GainOk Γ n) {t : Nat} {xs : List Ech} (hx : BOk t xs) {acts : List Act} (ha : ∀ a ∈ acts, actOk xs a = true) (hlt : acts.Pairwise fun a b => actLt a b = true) (hal : acts.length ≤ 10) {v : PV} (hd : dat v = true) (hc : ∀ ws, v = .tup ws → ws.length ≤ lim ∧ ∀ x ∈ ws, dat x = true) (hf : areN v xs.length 0 1000000000000 = false) {s : S} {Q : PV × Bool → S → Prop}
    (q : Q (.bl false, false) s) : Ok (run Γ n D_is_gain_under [brd t xs, .tup (acts.map Act.pv), v]) s Q := by
  obtain ⟨Γ72, Γ14, Γ53, Γ48, e1, e2, e3, e4⟩ := h.h
  obtain ⟨Γ25, Γ1, Γ0, e5, e6, e7⟩ := h.c
  obtain ⟨Γ104, Γ102, e8, hn, e9, hs⟩ := h.a
  refine ok_run rfl ?_
  show Ok (exCs Γ n (dropC 0 D_is_gain_under.body) [some (brd t xs, false), some (.tup (acts.map Act.pv), false), some (v, false)]) _ _
  refine ok_step rfl ?_
  simp [getB, bor, isOwned, e8]
  refine ok_run rfl ?_
  simp [D_need_acts, getB, bor, isOwned]
  refine o_need hn hx ?_
  simp [getB, bor, isOwned, e9]
  refine s_actsStand hs hx (by omega) ?_
  rw [actsB_ok ha hlt, decide_eq_true hal]
  simp
  refine ok_step rfl ?_
  rw [c_ret (by simp)]
  simp [getB, freezeAll, bor, isOwned, e5]
  refine s_counts e6 e7 hd hc ?_
  rw [hf]
  simpa using q
theorem s_isGainX {Γ : Gam} {n : Nat} (h : GainPlain Γ n) {t : Nat} {xs : List Ech} (hx : BOk t xs) {v : PV} (hd : dat v = true) (hc : ∀ ws, v = .tup ws → ws.length ≤ lim ∧ ∀ x ∈ ws, dat x = true) (hf : areN v xs.length 0 1000000000000 = false) {s : S} {Q : PV × Bool → S → Prop}
    (q : Q (.bl false, false) s) : Ok (run Γ n D_is_gain [brd t xs, v]) s Q := by
  obtain ⟨Γ15, Γ14, Γ53, Γ48, e1, e2, e3, e4⟩ := h.h
  obtain ⟨Γ25, Γ1, Γ0, e5, e6, e7⟩ := h.c
  refine ok_run rfl ?_
  show Ok (exCs Γ n (dropC 0 D_is_gain.body) [some (brd t xs, false), some (v, false)]) _ _
  refine ok_step rfl ?_
  simp [getB, bor, isOwned]
  refine o_need h.nd hx ?_
  try rw [nxt_next]
  refine ok_step rfl ?_
  rw [c_ret (by simp)]
  simp [getB, freezeAll, bor, isOwned, e5]
  refine s_counts e6 e7 hd hc ?_
  rw [hf]
  simpa using q
theorem areN_len {xs : List PV} {c : Nat} {lo hi : Int} (h : xs.length ≠ c) : areN (.tup xs) c lo hi = false := by
  unfold areN; simp [h]
theorem areN_rep {v : PV} {c : Nat} {lo hi : Int} (h : isI v lo hi = false) (hc : 0 < c) : areN (.tup (List.replicate c v)) c lo hi = false := by
  unfold areN
  obtain ⟨d, rfl⟩ : ∃ d, c = d + 1 := ⟨c - 1, by omega⟩
  simp [List.replicate_succ, h]
theorem rep_ints (k : Nat) (i : Int) : List.replicate k (PV.int i) = (List.replicate k i).map .int := by simp

abbrev GG (j : Nat) : Gam := GmT T nn j
theorem fn_at (j f : Nat) {D : Dfn} (h : tabOf T.L f = some D) : (GG (j + 1)).fn f = some (run (GG j) nn D) := by
  show (tabOf T.L f).map _ = _
  rw [h]; rfl
theorem drawOk (j : Nat) : DrawOk (GG (j + 3)) nn := ⟨⟨GG (j + 2), GG (j + 1), GG j, fn_at _ 7 rfl, fn_at _ 6 rfl, fn_at _ 5 rfl⟩⟩

def turnCB : Cmds := (.cons (.asg (.name 10) (.blt .tuple (.cons (.comp (.call 7 (.cons (.var 0) (.cons (.var 1) (.cons (.call 8 (.cons (.var 0) (.cons (.var 1) (.cons (.tup (.cons (.int 2) (.cons (.int 4) (.cons (.int 30) .nil)))) .nil)))) .nil)))) (.name 14) (.range1 (.var 3)) .nil) .nil))) (.cons (.asgz 11 (.comp (.var 14) (.name 14) (.range1 (.var 3)) (.cons (.and (.cons (.cmp .gt (.idx (.var 10) (.var 14)) (.int 0)) (.cons (.cmp .notin (.var 14) (.var 9)) .nil))) .nil))) (.cons (.asgz 12 (.comp (.idx (.var 10) (.var 14)) (.name 14) (.val (.var 9)) .nil)) (.cons (.asg (.name 13) (.and (.cons (.cmp .eq (.var 11) (.lst .nil)) (.cons (.call 59 (.cons (.idx (.var 6) (.int 0)) (.cons (.call 17 (.cons (.var 8) .nil)) (.cons (.var 12) .nil)))) .nil)))) (.cons (.ifs (.not (.call 27 (.cons (.call 107 (.cons (.var 6) (.cons (.var 2) (.cons (.var 10) .nil)))) (.cons (.var 13) .nil)))) (.cons (.ret (.bl false)) .nil) .nil) (.cons (.ifs (.or (.cons (.cmp .ne (.call 107 (.cons (.var 6) (.cons (.tup .nil) (.cons (.var 10) .nil)))) (.call 54 (.cons (.var 6) (.cons (.var 10) .nil)))) (.cons (.and (.cons (.var 13) (.cons (.not (.call 54 (.cons (.var 6) (.cons (.var 10) .nil)))) .nil))) .nil))) (.cons (.ret (.bl false)) .nil) .nil) .nil))))))
def env4 (ns : List Int) (t : Nat) (xs : List Ech) (ys : List Act) (off : PV) (y4 y10 y11 y12 y13 : Slt) : Envi := [some (.scr ns, false), some (.cnt, false), some (.tup (ys.map Act.pv), false), some (.int xs.length, false), y4, none, some (brd t xs, false), some (off, false), some (brd t (lawU ys xs).1, false), some (.lst ((lawU ys xs).2.map nPV), false), y10, y11, y12, y13, none, none]
theorem lawR_len (acts : List Act) : ∀ (xs : List Ech) (k : Nat), (lawR acts k xs).length ≤ xs.length
  | [], _ => Nat.le_refl 0
  | x :: xs, k => by
    unfold lawR
    have := lawR_len acts xs (k + 1)
    split <;> simp <;> omega
theorem lawR_ok {t : Nat} (acts : List Act) : ∀ (xs : List Ech) (k : Nat), (∀ x ∈ xs, EOk t x) → ∀ p ∈ lawR acts k xs, p.1.1.length = t ∧ p.1.2.length = t ∧ (∀ i ∈ p.1.1, 0 ≤ i ∧ i ≤ 5) ∧ ∀ i ∈ p.1.2, 0 ≤ i ∧ i ≤ 5
  | [], _, _, p, h => by simp [lawR] at h
  | x :: xs, k, hx, p, h => by
    unfold lawR at h
    have he := hx x List.mem_cons_self
    have ih := lawR_ok acts xs (k + 1) fun y hy => hx y (List.mem_cons_of_mem _ hy)
    split at h
    · exact ih p h
    · rcases List.mem_cons.mp h with rfl | h
      · refine ⟨he.l1, ?_, he.b1, lawG_mem acts k x.2 0 he.b2⟩
        show (lawG acts k 0 x.2).length = t
        rw [← gU_law acts k fun c hc => (he.b2 c hc).1, gU_len]
        exact he.l2
      · exact ih p h
theorem lawU_nets {t : Nat} {xs : List Ech} (hx : BOk t xs) (acts : List Act) : ∀ w ∈ (lawU acts xs).1.map netI, w.length = t ∧ ∀ i ∈ w, -5 ≤ i ∧ i ≤ 5 := fun w hw => by
  rw [lawU_eq] at hw
  simp only [List.map_map, List.mem_map, Function.comp] at hw
  obtain ⟨p, hp, rfl⟩ := hw
  obtain ⟨h1, h2, h3, h4⟩ := lawR_ok acts xs 0 hx.e p hp
  exact netI_ok h1 h2 h3 h4
theorem main23 {Γ Γ63 Γ81 Γ106 Γ8 Γ59 Γ58 Γ17 Γ27 Γ107 Γ54 : Gam} {n : Nat} (hd : DrawOk Γ n) (h8 : Γ.fn 8 = some (run Γ8 n D__law_pick)) (d8 : DrawOk Γ8 n) (h63' : Γ.fn 63 = some (run Γ63 n D__law_some_case)) (c63 : CaseOk Γ63 n) (h81 : Γ.fn 81 = some (run Γ81 n D__law_some_acts)) (s81 : SomeActs Γ81 n) (h106 : Γ.fn 106 = some (run Γ106 n D__law_under)) (h59 : Γ.fn 59 = some (run Γ59 n D__law_shows)) (h58 : Γ59.fn 58 = some (run Γ58 n D__law_sum)) (h17 : Γ.fn 17 = some (run Γ17 n D__law_nets)) (h27 : Γ.fn 27 = some (run Γ27 n D__law_same_truth)) (h107 : Γ.fn 107 = some (run Γ107 n D_is_gain_under)) (g107 : GainOk Γ107 n) (h54 : Γ.fn 54 = some (run Γ54 n D_is_gain)) (g54 : GainPlain Γ54 n)
    (hn : 200 < n) {ns : List Int} (h63 : ns.length ≤ 63) :
    Ok (run Γ n D_law [.scr ns]) ⟨none, []⟩ (fun r _ => r = (.bl true, false)) := by
  refine ok_run rfl ?_
  show Ok (exCs Γ n (dropC 0 D_law.body) [some (.scr ns, false), none, none, none, none, none, none, none, none, none, none, none, none, none, none, none]) _ _
  refine ok_step (c := (.mkcnt 1)) rfl ?_
  rw [c_mkcnt, nxt_next]
  refine ok_step (c := (.asg (.tup (.cons (.name 6) (.cons (.name 7) .nil))) (.call 63 (.cons (.var 0) (.cons (.var 1) (.cons (.int 3) .nil)))))) rfl ?_
  simp [getB, bor, isOwned, h63']
  refine s_someCase (m := 3) c63 hn h63 (by decide) ⟨rfl, 0, rfl, Nat.le_refl 0⟩ (by decide) fun t xs ps s1 hx hps1 hps2 hps3 hc1 => ?_
  have hxl := hx.l
  simp [asgT_tup, asgT_name, asgTs_nil, asgTs_cons]
  refine ok_step (c := (.asgz 2 (.call 81 (.cons (.var 0) (.cons (.var 1) (.cons (.var 6) (.cons (.int 3) .nil))))))) rfl ?_
  simp [getB, bor, isOwned, h81]
  refine s_someActs (m := 3) s81 hn h63 hx hc1 (by decide) fun ys s2 hy1 hy2 hy3 hy4 hc2 => ?_
  refine ok_step (c := (.asg (.tup (.cons (.name 8) (.cons (.name 9) .nil))) (.call 106 (.cons (.var 6) (.cons (.var 2) .nil))))) rfl ?_
  simp [getB, bor, isOwned, h106]
  refine s_lawUnder hx (by omega) ?_
  simp [asgT_tup, asgT_name, asgTs_nil, asgTs_cons]
  refine ok_step (c := (.asg (.name 3) (.blt .len (.cons (.idx (.var 6) (.int 1)) .nil)))) rfl ?_
  simp [getB]
  refine ok_step (c := .fors (.name 4) (.range1 (.int 8)) turnCB) rfl ?_
  have hr8 : rngOk 0 8 = true := rfl
  have hrl8 : (rangeW 0 8).length = 8 := by unfold rangeW; simp
  have hrn : rngOk 0 (xs.length : Int) = true := by
    unfold rngOk lim
    simp only [Bool.and_eq_true, decide_eq_true_eq]
    omega
  have hrln : (rangeW 0 (xs.length : Int)).length = xs.length := by unfold rangeW; simp
  simp [freezeIt, hr8]
  refine ok_forB (fun k env s => cle [] (700 + 20 * k) s ∧ ∃ y4 y10 y11 y12 y13, env = env4 ns t xs ys (.tup (ps.map opv)) y4 y10 y11 y12 y13) (B := 8) (k := 0) (by rw [hrl8]; decide) ⟨cle_mono hc2 (by decide), none, none, none, none, none, rfl⟩ (fun x hxm k env s hk hI => ?_) (fun env s hI => ?_)
  · obtain ⟨hcs, y4, y10, y11, y12, y13, rfl⟩ := hI
    rw [asgT_name, ok_some]
    show Ok (exCs Γ n (dropC 0 turnCB) (env4 ns t xs ys (.tup (ps.map opv)) (some (x, false)) y10 y11 y12 y13)) s _
    refine ok_step (c := (.asg (.name 10) (.blt .tuple (.cons (.comp (.call 7 (.cons (.var 0) (.cons (.var 1) (.cons (.call 8 (.cons (.var 0) (.cons (.var 1) (.cons (.tup (.cons (.int 2) (.cons (.int 4) (.cons (.int 30) .nil)))) .nil)))) .nil)))) (.name 14) (.range1 (.var 3)) .nil) .nil)))) rfl ?_
    simp [env4, getB, hrn, hrln, show xs.length ≤ lim by unfold lim; omega]
    refine ok_mapPB (P := fun _ y => ∃ i : Int, y = .int i ∧ 0 ≤ i ∧ i ≤ 29) (fun j s => cle [] (700 + 20 * k + 2 * j) s) (B := 6) (k := 0) (by rw [hrln]; omega) hcs (fun x hx j s hj hs => ?_) (fun zs s3 hz1 hz2 hc3 => ?_)
    · obtain ⟨Γ1, Γ2, Γ3, e7, e6, e5⟩ := hd.h7
      simp [o_compF, asgT_name, getB, bor, isOwned, h8, e7]
      refine s_pick (xs := [.int 2, .int 4, .int 30]) d8 h63 (by decide) hs (by omega) fun p s4 hp hc4 => ?_
      obtain ⟨m, rfl, hm0, hm1⟩ : ∃ m : Int, p = .int m ∧ 0 < m ∧ m ≤ 30 := by
        simp at hp
        rcases hp with rfl | rfl | rfl
        · exact ⟨2, rfl, by decide, by decide⟩
        · exact ⟨4, rfl, by decide, by decide⟩
        · exact ⟨30, rfl, by decide, by decide⟩
      refine s_draw h63 e6 e5 hm0 hc4 (by omega) fun d s5 d1 d2 hc5 => ?_
      exact ⟨⟨d, rfl, d1, by omega⟩, hc5⟩
    · obtain ⟨cs, rfl, hcl, hc0⟩ := ints_pairs hz1 fun p hp => hz2 p hp
      rw [hrln] at hcl
      have hcz : ∀ c ∈ cs, 0 ≤ c := fun c hc => (hc0 c hc).1
      have hcl2 : cs.length ≤ 6 := by omega
      have hlim : xs.length ≤ lim := by unfold lim; omega
      have hub : ∀ i ∈ (lawU ys xs).2, i < cs.length := fun i hi => by
        rw [lawU_eq] at hi
        have := (kept_mem ys i xs 0).mp hi
        omega
      refine ok_step rfl ?_
      simp [getB, hrn, hrln, hlim]
      rw [rangeW_nat]
      refine ok_mapFl (k := nPV) (g := nPV) (p := fun i => decide (0 < cs.getD i 0) && decide (i ∉ (lawU ys xs).2)) (fun i hi Qo q => ?_) ?_
      · have hil : i < cs.length := by rw [hcl]; simpa using hi
        have e0 : at? (cs.map PV.int) (i : Int) = some (.int cs[i]) := by rw [at_nat (by simpa using hil)]; simp
        have e1 : cs.getD i 0 = cs[i] := by simp [hil]
        simp [o_compF, asgT_name, getB, nPV, e0, notin_nats]
        rw [e1] at q
        by_cases h : 0 < cs[i]
        · by_cases h' : i ∈ (lawU ys xs).2
          · simp [h, h'] at q ⊢
            exact q
          · simp [h, h'] at q ⊢
            exact q
        · simp [h] at q ⊢
          exact q
      rw [show (List.range xs.length).filter (fun i => decide (0 < cs.getD i 0) && decide (i ∉ (lawU ys xs).2)) = barredL xs ys cs from rfl]
      have hkl : (lawU ys xs).2.length ≤ xs.length := by rw [lawU_eq]; simpa using lawR_len ys xs 0
      have hkl1 : (lawU ys xs).1.length ≤ xs.length := by rw [lawU_eq]; simpa using lawR_len ys xs 0
      refine ok_step rfl ?_
      simp [getB, show (lawU ys xs).2.length ≤ lim from Nat.le_trans hkl hlim]
      try rw [nxt_next]
      refine ok_mapF (k := nPV) (g := fun i => .int (cs.getD i 0)) (fun i hi Qo q => ?_) ?_
      · have hil := hub i hi
        have e0 : at? (cs.map PV.int) (i : Int) = some (.int cs[i]) := by rw [at_nat (by simpa using hil)]; simp
        have e1 : cs.getD i 0 = cs[i] := by simp [hil]
        rw [e1] at q
        simp [o_compF, asgT_name, getB, nPV, e0]
        exact q
      have dueS : ∀ (Q : Bool → Prop), Q (dueB t xs ys cs) → ∀ (d : PV × Bool → S → Prop), (∀ b, Q b → d (.bl b, false) s3) → Ok (evE Γ false (.and (.cons (.cmp .eq (.var 11) (.lst .nil)) (.cons (.call 59 (.cons (.idx (.var 6) (.int 0)) (.cons (.call 17 (.cons (.var 8) .nil)) (.cons (.var 12) .nil)))) .nil)))
          [some (.scr ns, false), some (.cnt, false), some (.tup (ys.map Act.pv), false), some (.int xs.length, false), some (x, false), none, some (brd t xs, false), some (.tup (ps.map opv), false), some (brd t (lawU ys xs).1, false), some (.lst ((lawU ys xs).2.map nPV), false), some (.tup (cs.map .int), false), some (.lst ((barredL xs ys cs).map nPV), false), some (.lst ((lawU ys xs).2.map fun i => .int (cs.getD i 0)), false), y13, none, none]) s3 d := fun Q hQ d hd => by
        simp only [c_nil, c_cons, nxt_next, nxt_ret, c_asgN, c_asgT, c_asgz, c_frz, c_par, o_rN, o_rC, c_ifs, c_retV, c_fors, c_expr, c_pass, c_whl, o_varT, o_varF, o_int, o_str, o_bl, o_non, o_tup, o_lst, o_bin, o_neg, o_not, o_cmp, o_cmp2, o_and, o_or, o_andN, o_orN, o_andC, o_orC, o_csN, o_csC, o_ite, o_idx, o_call, o_blt, o_isi, o_sli, o_esN, o_esC, o_bsN, o_bsC, o_val, o_range1, o_range2, o_enum, o_zip2, o_comp, o_compF, o_bltT, o_bltL, o_bltI, o_bltC, o_bltS, ok_ret, ok_bind, ok_some, ok_fst, ok_noexc, getB, getZ, bor, isOwned, freezeAll, freezeIt, freeze1, frzAt, asgT_tup, asgT_name, asgTs_nil, asgTs_cons, putRs, Option.map_some, Option.map_none, asBool_bl, asIntO_int, seqOf_tup, seqOf_lst, len_tup, len_lst, len_scr, tuple_tup, tuple_lst, list_tup, list_lst, max_two, min_two, bin_addI, bin_subI, cmp_eqI, cmp_neI, cmp_ltI, cmp_leI, cmp_gtI, cmp_geI, idx_tup, idx_lst, at_0, at_1, at_2, at_3, isOmit, List.foldl_cons, List.foldl_nil, List.map_cons, List.map_nil, List.getElem?_cons_succ, List.getElem?_cons_zero, List.set_cons_succ, List.set_cons_zero, List.cons_append, List.nil_append, if_true, if_false, reduceIte, reduceCtorEq, Bool.false_eq_true, Bool.true_eq_false, Bool.or_false, Bool.false_or, Bool.or_self, Bool.not_true, Bool.not_false, Bool.and_true, Bool.true_and, Bool.and_self, eq_nats_nil]
        unfold dueB at hQ
        cases hb : (barredL xs ys cs).isEmpty with
        | false =>
          rw [hb] at hQ
          simp only [c_nil, c_cons, nxt_next, nxt_ret, c_asgN, c_asgT, c_asgz, c_frz, c_par, o_rN, o_rC, c_ifs, c_retV, c_fors, c_expr, c_pass, c_whl, o_varT, o_varF, o_int, o_str, o_bl, o_non, o_tup, o_lst, o_bin, o_neg, o_not, o_cmp, o_cmp2, o_and, o_or, o_andN, o_orN, o_andC, o_orC, o_csN, o_csC, o_ite, o_idx, o_call, o_blt, o_isi, o_sli, o_esN, o_esC, o_bsN, o_bsC, o_val, o_range1, o_range2, o_enum, o_zip2, o_comp, o_compF, o_bltT, o_bltL, o_bltI, o_bltC, o_bltS, ok_ret, ok_bind, ok_some, ok_fst, ok_noexc, getB, getZ, bor, isOwned, freezeAll, freezeIt, freeze1, frzAt, asgT_tup, asgT_name, asgTs_nil, asgTs_cons, putRs, Option.map_some, Option.map_none, asBool_bl, asIntO_int, seqOf_tup, seqOf_lst, len_tup, len_lst, len_scr, tuple_tup, tuple_lst, list_tup, list_lst, max_two, min_two, bin_addI, bin_subI, cmp_eqI, cmp_neI, cmp_ltI, cmp_leI, cmp_gtI, cmp_geI, idx_tup, idx_lst, at_0, at_1, at_2, at_3, isOmit, List.foldl_cons, List.foldl_nil, List.map_cons, List.map_nil, List.getElem?_cons_succ, List.getElem?_cons_zero, List.set_cons_succ, List.set_cons_zero, List.cons_append, List.nil_append, if_true, if_false, reduceIte, reduceCtorEq, Bool.false_eq_true, Bool.true_eq_false, Bool.or_false, Bool.false_or, Bool.or_self, Bool.not_true, Bool.not_false, Bool.and_true, Bool.true_and, Bool.and_self]
          exact hd _ hQ
        | true =>
          rw [hb, Bool.true_and] at hQ
          simp only [c_nil, c_cons, nxt_next, nxt_ret, c_asgN, c_asgT, c_asgz, c_frz, c_par, o_rN, o_rC, c_ifs, c_retV, c_fors, c_expr, c_pass, c_whl, o_varT, o_varF, o_int, o_str, o_bl, o_non, o_tup, o_lst, o_bin, o_neg, o_not, o_cmp, o_cmp2, o_and, o_or, o_andN, o_orN, o_andC, o_orC, o_csN, o_csC, o_ite, o_idx, o_call, o_blt, o_isi, o_sli, o_esN, o_esC, o_bsN, o_bsC, o_val, o_range1, o_range2, o_enum, o_zip2, o_comp, o_compF, o_bltT, o_bltL, o_bltI, o_bltC, o_bltS, ok_ret, ok_bind, ok_some, ok_fst, ok_noexc, getB, getZ, bor, isOwned, freezeAll, freezeIt, freeze1, frzAt, asgT_tup, asgT_name, asgTs_nil, asgTs_cons, putRs, Option.map_some, Option.map_none, asBool_bl, asIntO_int, seqOf_tup, seqOf_lst, len_tup, len_lst, len_scr, tuple_tup, tuple_lst, list_tup, list_lst, max_two, min_two, bin_addI, bin_subI, cmp_eqI, cmp_neI, cmp_ltI, cmp_leI, cmp_gtI, cmp_geI, idx_tup, idx_lst, at_0, at_1, at_2, at_3, isOmit, List.foldl_cons, List.foldl_nil, List.map_cons, List.map_nil, List.getElem?_cons_succ, List.getElem?_cons_zero, List.set_cons_succ, List.set_cons_zero, List.cons_append, List.nil_append, if_true, if_false, reduceIte, reduceCtorEq, Bool.false_eq_true, Bool.true_eq_false, Bool.or_false, Bool.false_or, Bool.or_self, Bool.not_true, Bool.not_false, Bool.and_true, Bool.true_and, Bool.and_self, h59, h17, c_brd0]
          refine s_lawNets (by omega) (fun x hx' => ?_) ?_
          · rw [lawU_eq] at hx'
            obtain ⟨p, hp, rfl⟩ := List.mem_map.mp hx'
            have := (lawR_ok ys xs 0 hx.e p hp).1
            have := hx.t4
            omega
          · have e1 : (lawU ys xs).1.map (fun x => PV.tup ((netI x).map .int)) = ((lawU ys xs).1.map netI).map fun w => PV.tup (w.map .int) := by rw [List.map_map]; rfl
            rw [e1]
            refine s_lawShows h58 hx.t2 hx.t4 (cs := (lawU ys xs).2.map fun i => cs.getD i 0) (by rw [List.map_map]; rfl) (by rw [List.length_map]; have := hx.l; omega) (lawU_nets hx ys) ?_
            simp only [c_nil, c_cons, nxt_next, nxt_ret, c_asgN, c_asgT, c_asgz, c_frz, c_par, o_rN, o_rC, c_ifs, c_retV, c_fors, c_expr, c_pass, c_whl, o_varT, o_varF, o_int, o_str, o_bl, o_non, o_tup, o_lst, o_bin, o_neg, o_not, o_cmp, o_cmp2, o_and, o_or, o_andN, o_orN, o_andC, o_orC, o_csN, o_csC, o_ite, o_idx, o_call, o_blt, o_isi, o_sli, o_esN, o_esC, o_bsN, o_bsC, o_val, o_range1, o_range2, o_enum, o_zip2, o_comp, o_compF, o_bltT, o_bltL, o_bltI, o_bltC, o_bltS, ok_ret, ok_bind, ok_some, ok_fst, ok_noexc, getB, getZ, bor, isOwned, freezeAll, freezeIt, freeze1, frzAt, asgT_tup, asgT_name, asgTs_nil, asgTs_cons, putRs, Option.map_some, Option.map_none, asBool_bl, asIntO_int, seqOf_tup, seqOf_lst, len_tup, len_lst, len_scr, tuple_tup, tuple_lst, list_tup, list_lst, max_two, min_two, bin_addI, bin_subI, cmp_eqI, cmp_neI, cmp_ltI, cmp_leI, cmp_gtI, cmp_geI, idx_tup, idx_lst, at_0, at_1, at_2, at_3, isOmit, List.foldl_cons, List.foldl_nil, List.map_cons, List.map_nil, List.getElem?_cons_succ, List.getElem?_cons_zero, List.set_cons_succ, List.set_cons_zero, List.cons_append, List.nil_append, if_true, if_false, reduceIte, reduceCtorEq, Bool.false_eq_true, Bool.true_eq_false, Bool.or_false, Bool.false_or, Bool.or_self, Bool.not_true, Bool.not_false, Bool.and_true, Bool.true_and, Bool.and_self]
            have fin : ∀ b, Q b → (if b = true then d (.bl true, false) s3 else d (.bl false, false) s3) := fun b hb => by
              cases b
              · exact hd _ hb
              · exact hd _ hb
            exact fin _ hQ
      refine ok_step rfl ?_
      rw [c_asgN]
      refine dueS (fun b => b = dueB t xs ys cs) rfl _ fun b hb => ?_
      subst hb
      rw [due_eq hx ys hcl.symm]
      have hgood : areN (.tup (cs.map .int)) xs.length 0 1000000000000 = true := areN_map hcl fun i hi => ⟨(hc0 i hi).1, by have := (hc0 i hi).2; omega⟩
      simp
      refine ok_step rfl ?_
      simp [getB, bor, isOwned, h27, h107]
      refine s_isGainUnder g107 hx hy1 hy2 (by omega) (by omega) ?_
      simp [hgood]
      refine s_same ?_
      simp
      refine ok_step rfl ?_
      simp [getB, bor, isOwned, h107, h54]
      refine s_isGainUnder (acts := []) g107 hx (fun _ h => (nomatch h)) .nil (by simp) (by omega) ?_
      simp [hgood]
      refine s_isGain g54 hx (by omega) ?_
      simp [hgood, cmpop, eqB_bools, onot]
      have hmono := gain_mono hx ys hcz hcl.symm
      have hfin : cle [] (700 + 20 * (k + 1)) s3 := cle_mono hc3 (by rw [hrln]; omega)
      cases hg : gainU t xs ys cs with
      | true =>
        have hg2 := hmono hg
        simp
        refine s_isGain g54 hx (by omega) ?_
        simp [hgood, hg2]
        exact ⟨hfin, _, _, _, _, _, rfl⟩
      | false =>
        simp
        exact ⟨hfin, _, _, _, _, _, rfl⟩
  · obtain ⟨hcs, y4, y10, y11, y12, y13, rfl⟩ := hI
    simp only [env4]
    refine ok_step rfl ?_
    simp only [c_nil, c_cons, nxt_next, nxt_ret, c_asgN, c_asgT, c_asgz, c_frz, c_par, o_rN, o_rC, c_ifs, c_retV, c_fors, c_expr, c_pass, c_whl, o_varT, o_varF, o_int, o_str, o_bl, o_non, o_tup, o_lst, o_bin, o_neg, o_not, o_cmp, o_cmp2, o_and, o_or, o_andN, o_orN, o_andC, o_orC, o_csN, o_csC, o_ite, o_idx, o_call, o_blt, o_isi, o_sli, o_esN, o_esC, o_bsN, o_bsC, o_val, o_range1, o_range2, o_enum, o_zip2, o_comp, o_compF, o_bltT, o_bltL, o_bltI, o_bltC, o_bltS, ok_ret, ok_bind, ok_some, ok_fst, ok_noexc, getB, getZ, bor, isOwned, freezeAll, freezeIt, freeze1, frzAt, asgT_tup, asgT_name, asgTs_nil, asgTs_cons, putRs, Option.map_some, Option.map_none, asBool_bl, asIntO_int, seqOf_tup, seqOf_lst, len_tup, len_lst, len_scr, tuple_tup, tuple_lst, list_tup, list_lst, max_two, min_two, bin_addI, bin_subI, cmp_eqI, cmp_neI, cmp_ltI, cmp_leI, cmp_gtI, cmp_geI, idx_tup, idx_lst, at_0, at_1, at_2, at_3, isOmit, List.foldl_cons, List.foldl_nil, List.map_cons, List.map_nil, List.getElem?_cons_succ, List.getElem?_cons_zero, List.set_cons_succ, List.set_cons_zero, List.cons_append, List.nil_append, if_true, if_false, reduceIte, reduceCtorEq, Bool.false_eq_true, Bool.true_eq_false, Bool.or_false, Bool.false_or, Bool.or_self, Bool.not_true, Bool.not_false, Bool.and_true, Bool.true_and, Bool.and_self, show (((xs.length : Nat) : Int) + 1) = ((xs.length + 1 : Nat) : Int) by omega, mul_tup1 _ (show xs.length ≤ 10 by omega), mul_tup1 _ (show xs.length + 1 ≤ 10 by omega), mul_lst1 _ (show xs.length ≤ 10 by omega)]
    refine ok_step rfl ?_
    rw [c_ret (by simp)]
    have hxs : ∀ v ∈ [PV.non, .tup (List.replicate xs.length (.int 0)), .tup (List.replicate (xs.length + 1) (.int 1)), .lst (List.replicate xs.length (.int 1)), .int 5, .tup (List.replicate xs.length (.bl true))], ∀ (s : S) (Q : PV × Bool → S → Prop), Q (.bl false, false) s → Ok (run Γ107 n D_is_gain_under [brd t xs, .tup (ys.map Act.pv), v]) s Q := fun v hv s Q q => by
      have hrep : ∀ (k : Nat) (u : PV), dat u = true → k ≤ 10 → ∀ ws, PV.tup (List.replicate k u) = .tup ws → ws.length ≤ lim ∧ ∀ x ∈ ws, dat x = true := fun k u hu hk ws e => by
        cases e
        exact ⟨by rw [List.length_replicate]; unfold lim; omega, fun x hx => by rw [(List.mem_replicate.mp hx).2]; exact hu⟩
      simp only [List.mem_cons, List.not_mem_nil, or_false] at hv
      rcases hv with rfl | rfl | rfl | rfl | rfl | rfl
      · exact s_isGainUnderX g107 hx hy1 hy2 (by omega) rfl (fun _ e => by cases e) rfl q
      · rw [rep_ints]
        refine s_isGainUnder g107 hx hy1 hy2 (by omega) (by simp; omega) ?_
        rw [gainU_zero, Bool.and_false]
        exact q
      · exact s_isGainUnderX g107 hx hy1 hy2 (by omega) rfl (hrep _ _ rfl (by omega)) (areN_len (by simp)) q
      · exact s_isGainUnderX g107 hx hy1 hy2 (by omega) rfl (fun _ e => by cases e) rfl q
      · exact s_isGainUnderX g107 hx hy1 hy2 (by omega) rfl (fun _ e => by cases e) rfl q
      · by_cases h0 : xs.length = 0
        · rw [h0]
          refine s_isGainUnder (cs := []) g107 hx hy1 hy2 (by omega) (by simp) ?_
          rw [show gainU t xs ys [] = false from gainU_zero t xs ys 0, Bool.and_false]
          exact q
        · exact s_isGainUnderX g107 hx hy1 hy2 (by omega) rfl (hrep _ _ rfl (by omega)) (areN_rep rfl (by omega)) q
    simp only [c_nil, c_cons, nxt_next, nxt_ret, c_asgN, c_asgT, c_asgz, c_frz, c_par, o_rN, o_rC, c_ifs, c_retV, c_fors, c_expr, c_pass, c_whl, o_varT, o_varF, o_int, o_str, o_bl, o_non, o_tup, o_lst, o_bin, o_neg, o_not, o_cmp, o_cmp2, o_and, o_or, o_andN, o_orN, o_andC, o_orC, o_csN, o_csC, o_ite, o_idx, o_call, o_blt, o_isi, o_sli, o_esN, o_esC, o_bsN, o_bsC, o_val, o_range1, o_range2, o_enum, o_zip2, o_comp, o_compF, o_bltT, o_bltL, o_bltI, o_bltC, o_bltS, ok_ret, ok_bind, ok_some, ok_fst, ok_noexc, getB, getZ, bor, isOwned, freezeAll, freezeIt, freeze1, frzAt, asgT_tup, asgT_name, asgTs_nil, asgTs_cons, putRs, Option.map_some, Option.map_none, asBool_bl, asIntO_int, seqOf_tup, seqOf_lst, len_tup, len_lst, len_scr, tuple_tup, tuple_lst, list_tup, list_lst, max_two, min_two, bin_addI, bin_subI, cmp_eqI, cmp_neI, cmp_ltI, cmp_leI, cmp_gtI, cmp_geI, idx_tup, idx_lst, at_0, at_1, at_2, at_3, isOmit, List.foldl_cons, List.foldl_nil, List.map_cons, List.map_nil, List.getElem?_cons_succ, List.getElem?_cons_zero, List.set_cons_succ, List.set_cons_zero, List.cons_append, List.nil_append, if_true, if_false, reduceIte, reduceCtorEq, Bool.false_eq_true, Bool.true_eq_false, Bool.or_false, Bool.false_or, Bool.or_self, Bool.not_true, Bool.not_false, Bool.and_true, Bool.true_and, Bool.and_self]
    rw [if_pos (show [PV.non, .tup (List.replicate xs.length (.int 0)), .tup (List.replicate (xs.length + 1) (.int 1)), .lst (List.replicate xs.length (.int 1)), .int 5, .tup (List.replicate xs.length (.bl true))].length ≤ lim from (by decide : 6 ≤ lim))]
    generalize [PV.non, .tup (List.replicate xs.length (.int 0)), .tup (List.replicate (xs.length + 1) (.int 1)), .lst (List.replicate xs.length (.int 1)), .int 5, .tup (List.replicate xs.length (.bl true))] = vs at hxs ⊢
    rw [show vs = vs.map (fun v => v) by simp]
    refine ok_mapF (k := fun v => v) (g := fun _ => .bl false) (fun v hv Qo q => ?_) ?_
    · simp only [c_nil, c_cons, nxt_next, nxt_ret, c_asgN, c_asgT, c_asgz, c_frz, c_par, o_rN, o_rC, c_ifs, c_retV, c_fors, c_expr, c_pass, c_whl, o_varT, o_varF, o_int, o_str, o_bl, o_non, o_tup, o_lst, o_bin, o_neg, o_not, o_cmp, o_cmp2, o_and, o_or, o_andN, o_orN, o_andC, o_orC, o_csN, o_csC, o_ite, o_idx, o_call, o_blt, o_isi, o_sli, o_esN, o_esC, o_bsN, o_bsC, o_val, o_range1, o_range2, o_enum, o_zip2, o_comp, o_compF, o_bltT, o_bltL, o_bltI, o_bltC, o_bltS, ok_ret, ok_bind, ok_some, ok_fst, ok_noexc, getB, getZ, bor, isOwned, freezeAll, freezeIt, freeze1, frzAt, asgT_tup, asgT_name, asgTs_nil, asgTs_cons, putRs, Option.map_some, Option.map_none, asBool_bl, asIntO_int, seqOf_tup, seqOf_lst, len_tup, len_lst, len_scr, tuple_tup, tuple_lst, list_tup, list_lst, max_two, min_two, bin_addI, bin_subI, cmp_eqI, cmp_neI, cmp_ltI, cmp_leI, cmp_gtI, cmp_geI, idx_tup, idx_lst, at_0, at_1, at_2, at_3, isOmit, List.foldl_cons, List.foldl_nil, List.map_cons, List.map_nil, List.getElem?_cons_succ, List.getElem?_cons_zero, List.set_cons_succ, List.set_cons_zero, List.cons_append, List.nil_append, if_true, if_false, reduceIte, reduceCtorEq, Bool.false_eq_true, Bool.true_eq_false, Bool.or_false, Bool.false_or, Bool.or_self, Bool.not_true, Bool.not_false, Bool.and_true, Bool.true_and, Bool.and_self, h107]
      exact hxs v hv _ _ q
    · simp only [c_nil, c_cons, nxt_next, nxt_ret, c_asgN, c_asgT, c_asgz, c_frz, c_par, o_rN, o_rC, c_ifs, c_retV, c_fors, c_expr, c_pass, c_whl, o_varT, o_varF, o_int, o_str, o_bl, o_non, o_tup, o_lst, o_bin, o_neg, o_not, o_cmp, o_cmp2, o_and, o_or, o_andN, o_orN, o_andC, o_orC, o_csN, o_csC, o_ite, o_idx, o_call, o_blt, o_isi, o_sli, o_esN, o_esC, o_bsN, o_bsC, o_val, o_range1, o_range2, o_enum, o_zip2, o_comp, o_compF, o_bltT, o_bltL, o_bltI, o_bltC, o_bltS, ok_ret, ok_bind, ok_some, ok_fst, ok_noexc, getB, getZ, bor, isOwned, freezeAll, freezeIt, freeze1, frzAt, asgT_tup, asgT_name, asgTs_nil, asgTs_cons, putRs, Option.map_some, Option.map_none, asBool_bl, asIntO_int, seqOf_tup, seqOf_lst, len_tup, len_lst, len_scr, tuple_tup, tuple_lst, list_tup, list_lst, max_two, min_two, bin_addI, bin_subI, cmp_eqI, cmp_neI, cmp_ltI, cmp_leI, cmp_gtI, cmp_geI, idx_tup, idx_lst, at_0, at_1, at_2, at_3, isOmit, List.foldl_cons, List.foldl_nil, List.map_cons, List.map_nil, List.getElem?_cons_succ, List.getElem?_cons_zero, List.set_cons_succ, List.set_cons_zero, List.cons_append, List.nil_append, if_true, if_false, reduceIte, reduceCtorEq, Bool.false_eq_true, Bool.true_eq_false, Bool.or_false, Bool.false_or, Bool.or_self, Bool.not_true, Bool.not_false, Bool.and_true, Bool.true_and, Bool.and_self, any_map, show (vs.any fun _ => false) = false by simp, and_self]

theorem needOk (j : Nat) : NeedOk (GG (j + 6)) nn := ⟨⟨GG (j + 5), GG (j + 4), GG (j + 3), GG (j + 2), GG (j + 1), GG (j + 3), fn_at _ 13 rfl, fn_at _ 3 rfl, fn_at _ 0 rfl, fn_at _ 2 rfl, fn_at _ 1 rfl, fn_at _ 0 rfl⟩⟩
theorem standA (j : Nat) : StandA (GG (j + 3)) nn := ⟨⟨GG (j + 2), GG (j + 1), GG (j + 2), fn_at _ 71 rfl, fn_at _ 0 rfl, fn_at _ 70 rfl⟩⟩
theorem boardOk (j : Nat) : BoardOk (GG (j + 6)) nn := ⟨drawOk _, ⟨GG (j + 5), fn_at _ 8 rfl, drawOk _⟩, ⟨GG (j + 5), GG (j + 4), fn_at _ 10 rfl, drawOk _, fn_at _ 9 rfl, drawOk _⟩⟩
theorem someActs (j : Nat) : SomeActs (GG (j + 6)) nn := ⟨drawOk _, ⟨GG (j + 5), fn_at _ 62 rfl⟩, ⟨GG (j + 5), fn_at _ 61 rfl, drawOk _⟩⟩
theorem caseOk (j : Nat) : CaseOk (GG (j + 8)) nn := ⟨drawOk _, ⟨GG (j + 7), fn_at _ 11 rfl, boardOk _⟩, ⟨GG (j + 7), fn_at _ 62 rfl⟩, ⟨GG (j + 7), fn_at _ 61 rfl, drawOk _⟩⟩
theorem gainOk (j : Nat) : GainOk (GG (j + 9)) nn := ⟨⟨GG (j + 8), GG (j + 7), GG (j + 8), GG (j + 7), fn_at _ 72 rfl, fn_at _ 14 rfl, fn_at _ 53 rfl, fn_at _ 48 rfl⟩, ⟨GG (j + 8), GG (j + 7), GG (j + 6), fn_at _ 25 rfl, fn_at _ 1 rfl, fn_at _ 0 rfl⟩, ⟨GG (j + 8), GG (j + 7), fn_at _ 104 rfl, needOk _, fn_at _ 102 rfl, standA _⟩⟩
theorem gainPlain (j : Nat) : GainPlain (GG (j + 9)) nn := ⟨needOk _, ⟨GG (j + 8), GG (j + 7), GG (j + 8), GG (j + 7), fn_at _ 15 rfl, fn_at _ 14 rfl, fn_at _ 53 rfl, fn_at _ 48 rfl⟩, ⟨GG (j + 8), GG (j + 7), GG (j + 6), fn_at _ 25 rfl, fn_at _ 1 rfl, fn_at _ 0 rfl⟩⟩
theorem math (ns : List Int) (h63 : ns.length ≤ 63) : ∃ st', run (GmT T nn kk) nn D_law [.scr ns] ⟨none, []⟩ = .ok (.bl true, false) st' := by
  have h := main23 (Γ := GG 30) (n := nn) (drawOk 27) (fn_at 29 8 rfl) (drawOk 26) (fn_at 29 63 rfl) (caseOk 21) (fn_at 29 81 rfl) (someActs 23) (fn_at 29 106 rfl) (fn_at 29 59 rfl) (fn_at 28 58 rfl) (fn_at 29 17 rfl) (fn_at 29 27 rfl) (fn_at 29 107 rfl) (gainOk 20) (fn_at 29 54 rfl) (gainPlain 20) (by decide) h63
  obtain ⟨r, st', e, rfl⟩ := h.ex
  exact ⟨st', e⟩

end
end LW
open PySem PySem.W PySem.Calls PyProof.Rows
set_option maxHeartbeats 0 in
theorem PySem.Challenge.cw_gainboards_k23_whole_gains_under_holds : PySem.Challenge.rw_gainboards_k23_whole_gains_under.Holds := by
  w_on; o_law
  refine HandSHeadRun.head_any (r := OpenLaw.row PySem.Challenge.rw_gainboards_k23_whole_gains_under) (q := view (OpenLaw.row PySem.Challenge.rw_gainboards_k23_whole_gains_under).prog [41]) (H := LW.hk) (ob := LW.ob) (M := 4000) (loose := LW.names) (d := HandSHeadRun.topDef (OpenLaw.row PySem.Challenge.rw_gainboards_k23_whole_gains_under).prog 41) (kwd := []) LW.ob_eq
    (by kernel_rfl) (fun s => by kernel_rfl) LW.headRun (by kernel_rfl) (by kernel_rfl) (by kernel_rfl) (by rfl) (by first | assumption | decide +kernel) (by decide +kernel) ⟨rfl, rfl, rfl, rfl, rfl, by decide +kernel⟩ ?hw ?hc
  case hw => w_witness2
  case hc =>
    refine GB.law_end (l := PySem.Challenge.rw_gainboards_k23_whole_gains_under) (k := 2 * LW.kk + 2) (x := "_law_script") rfl (by kernel_rfl) ⟨rfl, by decide, by decide⟩ fun w mg fa h Y G hmg0 => ?_
    obtain ⟨K, KX, c⟩ := Y
    have hmg : mg ("law" : PySem.Str) = some (.ref fa) := by
      have e : (HandSHeadRun.topDef (OpenLaw.row PySem.Challenge.rw_gainboards_k23_whole_gains_under).prog 41).name = ("law" : PySem.Str) := by kernel_rfl
      rw [← e]
      exact hmg0
    obtain ⟨fd, sp, hb, hs, hF⟩ := LW.facts LW.math (w := w) KX G hmg c
    exact ⟨K, fd, sp, KX, hb, hs, hF⟩
