import PyProof.Rows.All
import KE.KeyNested
import PyProof.DictRoadsH
import HandS.Base
import HandS.Call
import HandS.List
import HandS.Comp
import HandS.Ends
import HandS.Dict
import HandS.Iter
import HandS.Text
import HandS.Words
import HandS.WordsList
import HandS.Style
import HandS.Zip
import HandS.Conv
import HandS.Flow
import HandS.IsInst
import HandS.TupMul
import HandS.Rev
import KE.GoesEnum
import HandS.More
import HandS.SortInts
import PyProof.P3In
import HandS.ForMost
import HandS.Defaults
import PySem.Challenge.RW_evenifothers_k16_what_is_broken
set_option Elab.async false
set_option linter.all false
set_option maxRecDepth 100000
set_option maxHeartbeats 8000000
/-! PyDA: pure data, the small language, what it computes (core Lean alone). -/
namespace PyD
/-- data: tuples are values; lst: a list that nobody changes any more; rol: a list of the outside, read only; ref n: the n-th mutable object -/
inductive D where
  | non | bl (b : Bool) | int (i : Int) | str (s : String) | tup (xs : List D) | lst (xs : List D) | rol (xs : List D) | ref (n : Nat)
  deriving Inhabited
/-- mutable objects: lists, dicts -/
inductive AO where
  | lst (xs : List D) | dct (kvs : List (D × D)) | ids (ks : List Int)
  deriving Inhabited
abbrev AH := List AO
abbrev Sl := List (Option D)
abbrev lim : Nat := 16777216
/-- what a def computes -/
abbrev Fun := List D → AH → Option (D × AH)

inductive Bop where
  | add | sub | mul | fdiv | mod | pow
  deriving DecidableEq
inductive Cop where
  | lt | le | gt | ge | eq | ne | is | isnot | isin | notin
  deriving DecidableEq
inductive Blt where
  | len | abs | int | min | max | str | tuple | all | any | bool | sum
  deriving DecidableEq
inductive Ty where
  | int | str | tuple | bool | list
  deriving DecidableEq
mutual
inductive Tg where
  | v (i : Nat) | t (ts : Tgs)
inductive Tgs where
  | nil | cons (t : Tg) (ts : Tgs)
end
mutual
inductive Ex where
  | var (i : Nat) | non | bl (b : Bool) | int (i : Int) | str (s : String) | glob (x : String) (d : D)
  | tup (es : Exs) | fv (f : Fx) | fm (f : Fx)
  | bin (op : Bop) (a b : Ex) | neg (a : Ex)
  | cmp (op : Cop) (a b : Ex) | chain (op op' : Cop) (a b c : Ex)
  | bop (isAnd : Bool) (es : Exs) | not (a : Ex) | ite (c a b : Ex)
  | idx (a b : Ex) | slc (a : Ex) (lo hi : Ox)
  | call (f : Nat) (args : Exs) | callK (f : Nat) (args kws : Exs) | callD (f : Nat) (args : Exs) (dfl : List D) | blt (b : Blt) (args : Exs) | isi (a : Ex) (t : Ty)
  | comp (elt : Ex) (tg : Tg) (it : It) (cond : Ox) (own : List Nat)
  | app (l e : Ex) | ext (l e : Ex)
  | dct0 | dct1 (k v : Ex) | inD (ng : Bool) (a b : Ex) | idxD (a b : Ex) | inT (ng : Bool) (a b : Ex)
inductive Exs where
  | nil | cons (e : Ex) (es : Exs)
inductive Ox where
  | no | so (e : Ex)
/-- makes a new list -/
inductive Fx where
  | disp (es : Exs) | rep (a n : Ex) | ofSeq (e : Ex) | rng1 (b : Ex) | rng2 (a b : Ex) | cat (a b : Ex) | cut (a : Ex) (lo hi : Ox) | rev (a : Ex) | srt (a : Ex)
/-- what a loop walks -/
inductive It where
  | seq (e : Ex) | rng1 (b : Ex) | rng2 (a b : Ex) | enum (e : Ex) | zip (a b : Ex)
end
mutual
inductive S where
  | set (i : Nat) (e : Ex) | par2 (i j : Nat) (a b : Ex) | par3 (i j k : Nat) (a b c : Ex)
  | asg (t : Tg) (e : Ex) | aug (i : Nat) (op : Bop) (e : Ex) | setIx (o i e : Ex) | setD (o i e : Ex) | setI (o i e : Ex)
  | expr (e : Ex) | ret (e : Ex) | retN
  | ite (c : Ex) (t e : Ss) | whl (c : Ex) (b : Ss) | for_ (t : Tg) (it : It) (b : Ss)
  | brk | cnt | pass
inductive Ss where
  | nil | cons (s : S) (ss : Ss)
end

/-! ### operations -/
def beqD : D → D → Bool
  | .non, .non => true
  | .bl a, .bl b => a == b
  | .bl a, .int b => (if a then 1 else 0) == b
  | .int a, .bl b => a == (if b then 1 else 0)
  | .int a, .int b => a == b
  | .str a, .str b => a == b
  | _, _ => false
def flat : D → Bool
  | .non => true | .bl _ => true | .int _ => true | .str _ => true | _ => false
/-- ==: of scalars -/
def deq : D → D → Option Bool
  | .bl _, .int _ => none
  | .int _, .bl _ => none
  | a, b => if flat a && flat b then some (beqD a b) else none

/-- the items of a sequence -/
def items : D → AH → Option (List D)
  | .tup ds, _ => some ds
  | .lst ds, _ => some ds
  | .rol ds, _ => some ds
  | .ref n, h => match h[n]? with
    | some (.lst ds) => some ds
    | _ => none
  | _, _ => none
/-- the items of a list that is no tuple -/
def litems : D → AH → Option (List D)
  | .lst ds, _ => some ds
  | .rol ds, _ => some ds
  | .ref n, h => match h[n]? with
    | some (.lst ds) => some ds
    | _ => none
  | _, _ => none
/-- .. of one that may be copied by the operators: not the outside's -/
def mitems : D → AH → Option (List D)
  | .lst ds, _ => some ds
  | .ref n, h => match h[n]? with
    | some (.lst ds) => some ds
    | _ => none
  | _, _ => none
def tupOf : D → Option (List D)
  | .tup xs => some xs
  | _ => none
def eqs (f : D → D → Option Bool) : List D → List D → Option Bool
  | x :: xs, y :: ys => (f x y).bind fun b => (eqs f xs ys).map fun c => b && c
  | [], [] => some true
  | _, _ => some false
/-- ==: of values of a depth -/
def eqN (h : AH) : Nat → D → D → Option Bool
  | 0, a, b => if flat a && flat b then some (beqD a b) else none
  | n + 1, a, b => match tupOf a, tupOf b with
    | some xs, some ys => eqs (eqN h n) xs ys
    | some _, none => if flat b then some false else (litems b h).map fun _ => false
    | none, some _ => if flat a then some false else (litems a h).map fun _ => false
    | none, none => if flat a then (if flat b then some (beqD a b) else (litems b h).map fun _ => false)
      else if flat b then (litems a h).map fun _ => false
      else (litems a h).bind fun xs => (litems b h).bind fun ys => if xs.length = ys.length then eqs (eqN h n) xs ys else some false
mutual
/-- ==: all kinds -/
def eqD : D → D → Bool
  | .tup xs, .tup ys => eqDs xs ys
  | .lst xs, .lst ys => eqDs xs ys
  | .lst xs, .rol ys => eqDs xs ys
  | .rol xs, .lst ys => eqDs xs ys
  | .rol xs, .rol ys => eqDs xs ys
  | a, b => beqD a b
def eqDs : List D → List D → Bool
  | x :: xs, y :: ys => eqD x y && eqDs xs ys
  | [], [] => true
  | _, _ => false
end
mutual
def closed : D → Bool
  | .ref _ => false
  | .tup ds => closeds ds
  | .lst ds => closeds ds
  | .rol ds => closeds ds
  | .non => true | .bl _ => true | .int _ => true | .str _ => true
def closeds : List D → Bool
  | [] => true
  | d :: ds => closed d && closeds ds
end
mutual
def depD : D → Nat
  | .tup ds => depDs ds + 1
  | .lst ds => depDs ds + 1
  | .rol ds => depDs ds + 1
  | .non => 0 | .bl _ => 0 | .int _ => 0 | .str _ => 0 | .ref _ => 0
def depDs : List D → Nat
  | [] => 0
  | d :: ds => max (depD d) (depDs ds)
end
mutual
/-- may be a key's part -/
def keyOk : D → Bool
  | .non => true | .bl _ => true | .int _ => true | .str _ => true
  | .tup ds => keyOks ds
  | .lst _ => false | .rol _ => false | .ref _ => false
def keyOks : List D → Bool
  | [] => true
  | d :: ds => keyOk d && keyOks ds
end
/-- may be a key: tuples -/
def kyD (d : D) : Bool := keyOk d && decide (depD d ≤ 8) && (tupOf d).isSome
def dget (kvs : List (D × D)) (k : D) : Option D := (kvs.find? fun p => eqD p.1 k).map (·.2)
def dput (kvs : List (D × D)) (k v : D) : List (D × D) :=
  if (dget kvs k).isSome then kvs.map (fun p => if eqD p.1 k then (p.1, v) else p) else kvs ++ [(k, v)]
def dctOf : D → AH → Option (List (D × D))
  | .ref n, h => match h[n]? with
    | some (.dct kvs) => some kvs
    | _ => none
  | _, _ => none
/-! dicts of ints, each worth True; sorting -/
def insI (x : Int) : List Int → List Int
  | [] => [x]
  | y :: ys => if x ≤ y then x :: y :: ys else y :: insI x ys
def isort : List Int → List Int
  | [] => []
  | x :: xs => insI x (isort xs)
def intsOf : List D → Option (List Int)
  | [] => some []
  | .int i :: ds => (intsOf ds).map fun is => i :: is
  | _ :: _ => none
def sortOf : D → AH → Option (List Int)
  | .lst ds, _ => intsOf ds
  | .ref n, h => match h[n]? with
    | some (.lst ds) => intsOf ds
    | some (.ids ks) => if ks.length < 64 then some ks else none
    | _ => none
  | _, _ => none
def putI (ks : List Int) (k : Int) : List Int := if k ∈ ks then ks else ks ++ [k]
def putID : D → D → D → AH → Option AH
  | .ref n, .int k, .bl true, h => match h[n]? with
    | some (.ids ks) => if ks.length < lim then some (h.set n (.ids (putI ks k))) else none
    | _ => none
  | _, _, _, _ => none
/-- in a tuple, of values of any depth -/
def inTD (ng : Bool) (x y : D) : Option D := match y with
  | .tup ds => if closed x && closeds ds && decide (depD x ≤ 60) && decide (depDs ds ≤ 59) then some (.bl ((ds.any fun z => eqD z x) != ng)) else none
  | _ => none
/-- a list by its number, as it stands -/
def rsv (d : D) (h : AH) : D := match d with
  | .ref n => (match h[n]? with
    | some (.lst ds) => .lst ds
    | _ => .ref n)
  | d => d
def eqO (a b : D) (h : AH) : Option Bool := if closed (rsv a h) && closed (rsv b h) && decide (depD (rsv a h) ≤ 60) && decide (depD (rsv b h) ≤ 60) then some (eqD (rsv a h) (rsv b h)) else none
def truth : D → AH → Option Bool
  | .non, _ => some false
  | .bl b, _ => some b
  | .int i, _ => some (i != 0)
  | .tup ds, _ => some (!ds.isEmpty)
  | .lst ds, _ => some (!ds.isEmpty)
  | .rol ds, _ => some (!ds.isEmpty)
  | .ref n, h => match h[n]? with
    | some (.lst ds) => some (!ds.isEmpty)
    | _ => none
  | .str _, _ => none
def binop : Bop → D → D → Option D
  | .add, .int i, .int j => some (.int (i + j))
  | .add, .str a, .str b => if a.length + b.length ≤ lim then some (.str (a ++ b)) else none
  | .add, .tup xs, .tup ys => if xs.length + ys.length ≤ lim then some (.tup (xs ++ ys)) else none
  | .sub, .int i, .int j => some (.int (i - j))
  | .mul, .int i, .int j => if (-(2 ^ 64) < i ∧ i < 2 ^ 64) ∨ (-(2 ^ 64) < j ∧ j < 2 ^ 64) then some (.int (i * j)) else none
  | .mul, .tup xs, .int k => if -1000 ≤ k ∧ k ≤ 1000 ∧ xs.length ≤ 1000 then some (.tup (List.replicate k.toNat xs).flatten) else none
  | .fdiv, .int i, .int j => if 0 < j ∧ j < 1073741824 then some (.int (i / j)) else none
  | .mod, .int i, .int j => if 0 < j then some (.int (i % j)) else none
  | .pow, .int i, .int j => if 0 ≤ j ∧ j ≤ 1000000 ∧ i.natAbs < 2 ^ 64 then some (.int (i ^ j.toNat)) else none
  | _, _, _ => none
def cmpop : Cop → D → D → AH → Option Bool
  | .lt, .int i, .int j, _ => some (decide (i < j))
  | .le, .int i, .int j, _ => some (decide (i ≤ j))
  | .gt, .int i, .int j, _ => some (decide (j < i))
  | .ge, .int i, .int j, _ => some (decide (j ≤ i))
  | .eq, a, b, h => eqO a b h
  | .ne, a, b, h => (eqO a b h).map not
  | .is, a, .non, _ => some (match a with | .non => true | _ => false)
  | .is, a, .bl b, _ => some (match a with | .bl c => c == b | _ => false)
  | .isnot, a, .non, _ => some (match a with | .non => false | _ => true)
  | .isin, a, b, h => (items b h).bind fun xs => if flat a && xs.all flat then some (xs.any fun y => beqD y a) else none
  | .notin, a, b, h => (items b h).bind fun xs => if flat a && xs.all flat then some (!xs.any fun y => beqD y a) else none
  | _, _, _, _ => none
/-- a is T, is F, of any value -/
def isTy : D → Ty → Bool
  | .int _, .int => true
  | .bl _, .int => true
  | .bl _, .bool => true
  | .str _, .str => true
  | .tup _, .tuple => true
  | .lst _, .list => true
  | .rol _, .list => true
  | .ref _, .list => true
  | _, _ => false
/-- .. in a heap -/
def isTyH (d : D) (t : Ty) (h : AH) : Option Bool := match d with
  | .ref n => (match h[n]? with
    | some (.lst _) => some (isTy (.ref n) t)
    | _ => none)
  | d => some (isTy d t)
/-- the place that an index means -/
def place (n : Nat) (i : Int) : Option Nat := if 0 ≤ i then (if i < n then some i.toNat else none) else if -(n : Int) ≤ i then some (i + n).toNat else none
def index (d : D) (i : D) (h : AH) : Option D :=
  match i with
  | .int k => (items d h).bind fun xs => (place xs.length k).bind fun j => xs[j]?
  | _ => none
def bnd (n d : Nat) : Option Int → Nat
  | none => d
  | some i => if i < 0 then (i + n).toNat else min i.toNat n
def cut (xs : List D) (lo hi : Option Int) : List D := (xs.drop (bnd xs.length 0 lo)).take (bnd xs.length xs.length hi - bnd xs.length 0 lo)
def allBool : List D → Option (List Bool)
  | [] => some []
  | .bl b :: r => (allBool r).map (b :: ·)
  | _ => none
def allInt : List D → Option (List Int)
  | [] => some []
  | .int i :: r => (allInt r).map (i :: ·)
  | _ => none
def ofStr (i : Int) : String := toString i
def bltf : Blt → List D → AH → Option D
  | .len, [d], h => (items d h).map fun xs => .int xs.length
  | .abs, [.int i], _ => some (.int (if i < 0 then -i else i))
  | .int, [.int i], _ => some (.int i)
  | .int, [.bl b], _ => some (.int (if b then 1 else 0))
  | .min, [.int i, .int j], _ => some (.int (if j < i then j else i))
  | .max, [.int i, .int j], _ => some (.int (if j > i then j else i))
  | .str, [.int i], _ => if i.natAbs.log2 < 1920 then some (.str (ofStr i)) else none
  | .tuple, [d], h => (items d h).map .tup
  | .all, [d], h => (items d h).bind fun xs => (allBool xs).map fun bs => .bl (bs.all id)
  | .any, [d], h => (items d h).bind fun xs => (allBool xs).map fun bs => .bl (bs.any id)
  | .bool, [.bl b], _ => some (.bl b)
  | .sum, [d], h => (litems d h).bind fun xs => (allInt xs).map fun ns => .int ns.sum
  | _, _, _ => none
def rng (a b : Int) : Option (List D) := if -1000000 ≤ a ∧ b ≤ 1000000 ∧ a ≤ 1000000 ∧ -1000000 ≤ b then some ((List.range (b - a).toNat).map fun i => .int (a + (i : Nat))) else none

/-- x op= y -/
def augF : Bop → Int → D → Option D
  | .add, x, .int y => some (.int (x + y))
  | .sub, x, .int y => some (.int (x - y))
  | _, _, _ => none
/-! ### targets -/
mutual
def put : Tg → D → Sl → Option Sl
  | .v i, d, σ => some (σ.set i (some d))
  | .t ts, d, σ => match d with
    | .tup ds => puts ts ds σ
    | _ => none
def puts : Tgs → List D → Sl → Option Sl
  | .nil, [], σ => some σ
  | .cons t ts, d :: ds, σ => (put t d σ).bind fun σ' => puts ts ds σ'
  | _, _, _ => none
end
def wipe (σ : Sl) : List Nat → Sl
  | [] => σ
  | v :: vs => (wipe σ vs).set v none

/-- a list that is walked must keep its length -/
def okL (n : Option Nat) (len : Nat) (h : AH) : Bool := match n with
  | none => true
  | some k => match h[k]? with
    | some (.lst a) => a.length == len
    | _ => false
/-- the item of a turn: the list's as it stands -/
def cur (n : Option Nat) (i : Nat) (x : D) (h : AH) : Option D := match n with
  | none => some x
  | some k => match h[k]? with
    | some (.lst a) => a[i]?
    | _ => none
/-- a comprehension's turns -/
def compL (σ : Sl) (tg : Tg) (n : Option Nat) (len : Nat) (cond : Sl → AH → Option (Bool × AH)) (elt : Sl → AH → Option (D × AH)) : List D → Nat → AH → Option (List D × AH)
  | [], _, h => if okL n len h then some ([], h) else none
  | x :: xs, i, h => if okL n len h then (cur n i x h).bind fun y => (put tg y σ).bind fun σ1 => (cond σ1 h).bind fun (b, h1) =>
      if b then (elt σ1 h1).bind fun (d, h2) => (compL σ tg n len cond elt xs (i + 1) h2).bind fun (ds, h3) => some (d :: ds, h3)
      else compL σ tg n len cond elt xs (i + 1) h1
    else none

/-! ### refs: what is closed, what is frozen -/
mutual
def mapR (g : Nat → Option D) : D → Option D
  | .ref k => g k
  | .tup ds => (mapRs g ds).map .tup
  | .lst ds => (mapRs g ds).map .lst
  | .rol ds => (mapRs g ds).map .rol
  | .non => some .non | .bl b => some (.bl b) | .int i => some (.int i) | .str s => some (.str s)
def mapRs (g : Nat → Option D) : List D → Option (List D)
  | [] => some []
  | d :: ds => (mapR g d).bind fun x => (mapRs g ds).map fun xs => x :: xs
end
/-- the list behind a number, as a value; ok: which may be frozen -/
def fzR (h : AH) (ok : Nat → Bool) : Nat → Nat → Option D
  | 0, _ => none
  | n + 1, k => if ok k then (match h[k]? with
    | some (.lst ds) => (mapRs (fzR h ok n) ds).map .lst
    | _ => none) else none
def closedO : AO → Bool
  | .lst ds => closeds ds
  | .dct _ => false
  | .ids _ => false
/-- what a def gives back: its new lists frozen (m: but the one that it answers with), its n old ones as they are -/
def fin (m : Bool) (n : Nat) (d : D) (h : AH) : Option (D × AH) :=
  if (h.take n).all closedO then
    if m then (match d with
      | .ref k => if n ≤ k then (match h[k]? with
          | some (.lst ds) => (mapRs (fzR h (fun j => decide (n ≤ j) && decide (j ≠ k)) 6) ds).map fun es => (.ref n, h.take n ++ [.lst es])
          | _ => none) else none
      | _ => none)
    else (mapR (fzR h (fun j => decide (n ≤ j)) 6) d).map fun e => (e, h.take n)
  else none
/-- a call: on no mutable object, or on one that stands first -/
def callC (φ : Fun) (ds : List D) (h : AH) : Option (D × AH) := match ds with
  | .ref r :: rest => if closeds rest then (match h[r]? with
      | some (.lst es) => if closeds es then (φ (.ref 0 :: rest) [.lst es]).bind fun (d, h') => (match h' with
          | [.lst es'] => if closed d && closeds es' then some (d, h.set r (.lst es')) else none
          | _ => none)
        else none
      | _ => none)
    else none
  | ds => if closeds ds then (φ ds []).bind fun (d, h') => (match h' with
      | [] => if closed d then some (d, h) else none
      | [.lst es] => (match d with
          | .ref 0 => if closeds es then some (.ref h.length, h ++ [.lst es]) else none
          | _ => none)
      | _ => none)
    else none

section
variable (C : Nat → Fun)
mutual
def ev : Ex → Sl → AH → Option (D × AH)
  | .var i, σ, h => match σ[i]? with
    | some (some d) => some (d, h)
    | _ => none
  | .non, _, h => some (.non, h)
  | .bl b, _, h => some (.bl b, h)
  | .int i, _, h => some (.int i, h)
  | .str s, _, h => some (.str s, h)
  | .glob _ d, _, h => some (d, h)
  | .tup es, σ, h => (evs es σ h).bind fun (ds, h1) => some (.tup ds, h1)
  | .fv f, σ, h => (evF f σ h).bind fun (ds, h1) => some (.lst ds, h1)
  | .fm f, σ, h => (evF f σ h).bind fun (ds, h1) => some (.ref h1.length, h1 ++ [.lst ds])
  | .bin op a b, σ, h => (ev a σ h).bind fun (x, h1) => (ev b σ h1).bind fun (y, h2) => (binop op x y).bind fun z => some (z, h2)
  | .neg a, σ, h => (ev a σ h).bind fun (x, h1) => match x with
    | .int i => some (.int (-i), h1)
    | _ => none
  | .cmp op a b, σ, h => (ev a σ h).bind fun (x, h1) => (ev b σ h1).bind fun (y, h2) => (cmpop op x y h2).bind fun z => some (.bl z, h2)
  | .chain op op' a b c, σ, h => (ev a σ h).bind fun (x, h1) => (ev b σ h1).bind fun (y, h2) => (cmpop op x y h2).bind fun k =>
      if k then (ev c σ h2).bind fun (z, h3) => (cmpop op' y z h3).bind fun k' => some (.bl k', h3) else some (.bl false, h2)
  | .bop i es, σ, h => evB i es σ h
  | .not a, σ, h => (ev a σ h).bind fun (d, h1) => (truth d h1).bind fun k => some (.bl (!k), h1)
  | .ite c a b, σ, h => (ev c σ h).bind fun (d, h1) => (truth d h1).bind fun k => if k then ev a σ h1 else ev b σ h1
  | .idx a b, σ, h => (ev a σ h).bind fun (x, h1) => (ev b σ h1).bind fun (y, h2) => (index x y h2).bind fun z => some (z, h2)
  | .slc a lo hi, σ, h => (ev a σ h).bind fun (x, h1) => (evO lo σ h1).bind fun (l, h2) => (evO hi σ h2).bind fun (u, h3) => match x with
    | .tup xs => some (.tup (cut xs l u), h3)
    | _ => none
  | .call f args, σ, h => (evs args σ h).bind fun (ds, h1) => callC (C f) ds h1
  | .callK f args kws, σ, h => (evs args σ h).bind fun (ds, h1) => (evs kws σ h1).bind fun (es, h2) => callC (C f) (ds ++ es) h2
  | .callD f args dfl, σ, h => (evs args σ h).bind fun (ds, h1) => callC (C f) (ds ++ dfl) h1
  | .blt b args, σ, h => (evs args σ h).bind fun (ds, h1) => (bltf b ds h1).bind fun z => some (z, h1)
  | .isi a t, σ, h => (ev a σ h).bind fun (x, h1) => (isTyH x t h1).bind fun k => some (.bl k, h1)
  | .comp elt tg it cond own, σ, h => (evI it σ h).bind fun (xs, n, h1) => if xs.length ≤ lim then (compL (wipe σ own) tg n xs.length (tstO cond) (ev elt) xs 0 h1).bind fun (ds, h2) => some (.lst ds, h2) else none
  | .app l e, σ, h => (ev l σ h).bind fun (x, h1) => (litems x h1).bind fun _ => (ev e σ h1).bind fun (y, h2) => match x with
    | .ref n => (match h2[n]? with
      | some (.lst ds) => if ds.length < lim then some (.non, h2.set n (.lst (ds ++ [y]))) else none
      | _ => none)
    | _ => none
  | .ext l e, σ, h => (ev l σ h).bind fun (x, h1) => (litems x h1).bind fun _ => (ev e σ h1).bind fun (y, h2) => (mitems y h2).bind fun ys => match x with
    | .ref n => (match h2[n]? with
      | some (.lst ds) => if ds.length + ys.length ≤ lim then some (.non, h2.set n (.lst (ds ++ ys))) else none
      | _ => none)
    | _ => none
  | .dct0, _, h => some (.ref h.length, h ++ [.ids []])
  | .dct1 k v, σ, h => (ev k σ h).bind fun (x, h1) => (ev v σ h1).bind fun (y, h2) => if kyD x then some (.ref h2.length, h2 ++ [.dct [(x, y)]]) else none
  | .inD ng a b, σ, h => (ev a σ h).bind fun (x, h1) => (ev b σ h1).bind fun (y, h2) => (dctOf y h2).bind fun kvs => if kyD x then some (.bl ((dget kvs x).isSome != ng), h2) else none
  | .idxD a b, σ, h => (ev a σ h).bind fun (x, h1) => (ev b σ h1).bind fun (y, h2) => (dctOf x h2).bind fun kvs => if kyD y then (dget kvs y).bind fun z => some (z, h2) else none
  | .inT ng a b, σ, h => (ev a σ h).bind fun (x, h1) => (ev b σ h1).bind fun (y, h2) => (inTD ng x y).bind fun z => some (z, h2)
def evs : Exs → Sl → AH → Option (List D × AH)
  | .nil, _, h => some ([], h)
  | .cons e es, σ, h => (ev e σ h).bind fun (d, h1) => (evs es σ h1).bind fun (ds, h2) => some (d :: ds, h2)
def evO : Ox → Sl → AH → Option (Option Int × AH)
  | .no, _, h => some (none, h)
  | .so e, σ, h => (ev e σ h).bind fun (d, h1) => match d with
    | .int i => some (some i, h1)
    | _ => none
def evB (isAnd : Bool) : Exs → Sl → AH → Option (D × AH)
  | .nil, _, _ => none
  | .cons e .nil, σ, h => ev e σ h
  | .cons e (.cons e2 es), σ, h => (ev e σ h).bind fun (d, h1) => (truth d h1).bind fun k => if k == isAnd then evB isAnd (.cons e2 es) σ h1 else some (d, h1)
/-- as a comprehension's test -/
def tstO : Ox → Sl → AH → Option (Bool × AH)
  | .no, _, h => some (true, h)
  | .so e, σ, h => (ev e σ h).bind fun (d, h1) => (truth d h1).bind fun k => some (k, h1)
def evF : Fx → Sl → AH → Option (List D × AH)
  | .disp es, σ, h => evs es σ h
  | .rep a n, σ, h => (ev a σ h).bind fun (x, h1) => (ev n σ h1).bind fun (y, h2) => match y with
    | .int k => (mitems x h2).bind fun xs => if 0 ≤ k ∧ k ≤ lim ∧ xs.length * k.toNat ≤ lim then some ((List.replicate k.toNat xs).flatten, h2) else none
    | _ => none
  | .ofSeq e, σ, h => (ev e σ h).bind fun (x, h1) => (items x h1).bind fun xs => some (xs, h1)
  | .rng1 b, σ, h => (ev b σ h).bind fun (x, h1) => match x with
    | .int i => (rng 0 i).bind fun xs => some (xs, h1)
    | _ => none
  | .rng2 a b, σ, h => (ev a σ h).bind fun (x, h1) => (ev b σ h1).bind fun (y, h2) => match x, y with
    | .int i, .int j => (rng i j).bind fun xs => some (xs, h2)
    | _, _ => none
  | .cat a b, σ, h => (ev a σ h).bind fun (x, h1) => (ev b σ h1).bind fun (y, h2) => (mitems x h2).bind fun xs => (mitems y h2).bind fun ys =>
      if xs.length + ys.length ≤ lim then some (xs ++ ys, h2) else none
  | .cut a lo hi, σ, h => (ev a σ h).bind fun (x, h1) => (evO lo σ h1).bind fun (l, h2) => (evO hi σ h2).bind fun (u, h3) => (litems x h3).bind fun xs => some (cut xs l u, h3)
  | .rev a, σ, h => (ev a σ h).bind fun (x, h1) => (litems x h1).bind fun xs => some (xs.reverse, h1)
  | .srt a, σ, h => (ev a σ h).bind fun (x, h1) => (sortOf x h1).bind fun ks => some ((isort ks).map .int, h1)
def evI : It → Sl → AH → Option (List D × Option Nat × AH)
  | .seq e, σ, h => (ev e σ h).bind fun (x, h1) => (items x h1).bind fun xs => some (xs, (match x with | .ref n => some n | _ => none), h1)
  | .rng1 b, σ, h => (ev b σ h).bind fun (x, h1) => match x with
    | .int i => (rng 0 i).bind fun xs => some (xs, none, h1)
    | _ => none
  | .rng2 a b, σ, h => (ev a σ h).bind fun (x, h1) => (ev b σ h1).bind fun (y, h2) => match x, y with
    | .int i, .int j => (rng i j).bind fun xs => some (xs, none, h2)
    | _, _ => none
  | .enum e, σ, h => (ev e σ h).bind fun (x, h1) => match x with
    | .tup xs => some (xs.mapIdx (fun i d => .tup [.int i, d]), none, h1)
    | .lst xs => some (xs.mapIdx (fun i d => .tup [.int i, d]), none, h1)
    | .rol xs => some (xs.mapIdx (fun i d => .tup [.int i, d]), none, h1)
    | _ => none
  | .zip a b, σ, h => (ev a σ h).bind fun (x, h1) => (ev b σ h1).bind fun (y, h2) => match x, y with
    | .tup xs, .tup ys => some ((xs.zip ys).map (fun p => .tup [p.1, p.2]), none, h2)
    | _, _ => none
end

/-- an expression as a test -/
def tst (e : Ex) (σ : Sl) (h : AH) : Option (Bool × AH) := (ev C e σ h).bind fun (d, h1) => (truth d h1).bind fun k => some (k, h1)

/-! ### statements -/
inductive Fl where
  | nx | rt (d : D) | bk | ct
def whileF (c : Sl → AH → Option (Bool × AH)) (b : Sl → AH → Option (Fl × Sl × AH)) : Nat → Sl → AH → Option (Fl × Sl × AH)
  | 0, _, _ => none
  | n + 1, σ, h => (c σ h).bind fun (k, h1) => if k then (b σ h1).bind fun (f, σ2, h2) => match f with
      | .nx => whileF c b n σ2 h2
      | .ct => whileF c b n σ2 h2
      | .bk => some (.nx, σ2, h2)
      | .rt d => some (.rt d, σ2, h2)
    else some (.nx, σ, h1)
def forL (tg : Tg) (n : Option Nat) (len : Nat) (b : Sl → AH → Option (Fl × Sl × AH)) : List D → Nat → Sl → AH → Option (Fl × Sl × AH)
  | [], _, σ, h => if okL n len h then some (.nx, σ, h) else none
  | x :: xs, i, σ, h => if okL n len h then (cur n i x h).bind fun y => (put tg y σ).bind fun σ1 => (b σ1 h).bind fun (f, σ2, h2) => match f with
      | .nx => forL tg n len b xs (i + 1) σ2 h2
      | .ct => forL tg n len b xs (i + 1) σ2 h2
      | .bk => some (.nx, σ2, h2)
      | .rt d => some (.rt d, σ2, h2)
    else none
mutual
def ex (fuel : Nat) : S → Sl → AH → Option (Fl × Sl × AH)
  | .set i e, σ, h => (ev C e σ h).bind fun (d, h1) => some (.nx, σ.set i (some d), h1)
  | .par2 i j a b, σ, h => (ev C a σ h).bind fun (x, h1) => (ev C b σ h1).bind fun (y, h2) => some (.nx, (σ.set i (some x)).set j (some y), h2)
  | .par3 i j k a b c, σ, h => (ev C a σ h).bind fun (x, h1) => (ev C b σ h1).bind fun (y, h2) => (ev C c σ h2).bind fun (z, h3) => some (.nx, ((σ.set i (some x)).set j (some y)).set k (some z), h3)
  | .asg t e, σ, h => (ev C e σ h).bind fun (d, h1) => (put t d σ).bind fun σ1 => some (.nx, σ1, h1)
  | .aug i op e, σ, h => match σ[i]? with
    | some (some (.int x)) => (ev C e σ h).bind fun (y, h1) => (augF op x y).bind fun z => some (.nx, σ.set i (some z), h1)
    | _ => none
  | .setIx o i e, σ, h => (ev C e σ h).bind fun (d, h1) => (ev C o σ h1).bind fun (x, h2) => (ev C i σ h2).bind fun (y, h3) => match x, y with
    | .ref n, .int k => (match h3[n]? with
      | some (.lst ds) => (place ds.length k).bind fun j => some (.nx, σ, h3.set n (.lst (ds.set j d)))
      | _ => none)
    | _, _ => none
  | .setD o i e, σ, h => (ev C e σ h).bind fun (d, h1) => (ev C o σ h1).bind fun (x, h2) => (ev C i σ h2).bind fun (y, h3) => match x with
    | .ref n => (match h3[n]? with
      | some (.dct kvs) => if kyD y && decide (kvs.length < lim) then some (.nx, σ, h3.set n (.dct (dput kvs y d))) else none
      | _ => none)
    | _ => none
  | .setI o i e, σ, h => (ev C e σ h).bind fun (d, h1) => (ev C o σ h1).bind fun (x, h2) => (ev C i σ h2).bind fun (y, h3) => (putID x y d h3).bind fun h4 => some (.nx, σ, h4)
  | .expr e, σ, h => (ev C e σ h).bind fun (_, h1) => some (.nx, σ, h1)
  | .ret e, σ, h => (ev C e σ h).bind fun (d, h1) => some (.rt d, σ, h1)
  | .retN, σ, h => some (.rt .non, σ, h)
  | .ite c t e, σ, h => (tst C c σ h).bind fun (k, h1) => if k then exs fuel t σ h1 else exs fuel e σ h1
  | .whl c b, σ, h => whileF (tst C c) (exs fuel b) fuel σ h
  | .for_ t it b, σ, h => (evI C it σ h).bind fun (xs, n, h1) => forL t n xs.length (exs fuel b) xs 0 σ h1
  | .brk, σ, h => some (.bk, σ, h)
  | .cnt, σ, h => some (.ct, σ, h)
  | .pass, σ, h => some (.nx, σ, h)
def exs (fuel : Nat) : Ss → Sl → AH → Option (Fl × Sl × AH)
  | .nil, σ, h => some (.nx, σ, h)
  | .cons s ss, σ, h => (ex fuel s σ h).bind fun (f, σ1, h1) => match f with
    | .nx => exs fuel ss σ1 h1
    | f => some (f, σ1, h1)
end
/-- a def: n names, the parameters first; m: it answers with a list of its own that its caller may change -/
def run (m : Bool) (fuel n : Nat) (b : Ss) : Fun := fun ds h =>
  (exs C fuel b (ds.map some ++ List.replicate (n - ds.length) none) h).bind fun (f, _, h1) => match f with
    | .nx => fin m h.length .non h1
    | .rt d => fin m h.length d h1
    | _ => none
end
/-- a def by data: its name, arity, slots, its kind, its body -/
structure Df where
  x : String
  ar : Nat
  N : List String
  m : Bool
  b : Ss
  kws : List (Nat × List String) := []
  dfl : List (Nat × List D) := []
/-- what the defs compute, to a depth of calls -/
def tabF (L : List Df) (fuel : Nat) : Nat → Nat → Fun
  | 0, _ => fun _ _ => none
  | k + 1, i => match L[i]? with
    | some d => run (tabF L fuel k) d.m fuel d.N.length d.b
    | none => fun _ _ => none
end PyD

/-! PyD0: pure data D over the hand layer's values V; an abstract heap of mutable lists; how they are represented. -/
namespace PyD
open PySem PySem.Spec PyProof.Rows L2

/-- the fragment and the world -/
structure Kw where
  k : PySem.W.Frag
  w : World
instance : Coe Kw PySem.W.Frag := ⟨Kw.k⟩
abbrev _root_.L2.Cx.kw (X : L2.Cx) : Kw := ⟨X.K, X.w⟩
/-- the addresses of the mutable objects, by number; w: those that nobody may name -/
structure Rho where
  r : List Addr
  w : List Addr
instance : Membership Addr Rho := ⟨fun ρ a => a ∈ ρ.r ∨ a ∈ ρ.w⟩
def Rho.push (ρ : Rho) (p : Addr) : Rho := ⟨ρ.r ++ [p], ρ.w⟩
theorem Rho.mem_get {ρ : Rho} {n : Nat} {a : Addr} (h : ρ.r[n]? = some a) : a ∈ ρ := Or.inl (List.mem_of_getElem? h)
def KTup (K : Kw) (a : Addr) (xs : List V) : Prop :=
  ∃ (o : Obj) (its : Array Value) (n : Nat), K.k.lookup a = some o ∧ o.cls = .type "tuple" ∧ o.data = .seq its n ∧ its.size ≤ sizeLine ∧ Vals xs its.toList
def KLst (K : Kw) (a : Addr) (xs : List V) : Prop :=
  ∃ (o : Obj) (its : Array Value) (n : Nat), K.k.lookup a = some o ∧ o.cls = .type "list" ∧ o.dict = none ∧ o.data = .seq its n ∧ its.size ≤ sizeLine ∧ Vals xs its.toList
def QT (K : Kw) (ρ : Rho) (H : Hp) (a : Addr) (xs : List V) : Prop := (Rd H a (.tup xs) ∧ a ∉ ρ) ∨ KTup K a xs
def QL (ρ : Rho) (H : Hp) (a : Addr) (xs : List V) : Prop := H a = some (.lst xs) ∧ a ∉ ρ
def QR (K : Kw) (ρ : Rho) (H : Hp) (a : Addr) (xs : List V) : Prop := (Rd H a (.lst xs) ∧ a ∉ ρ) ∨ KLst K a xs
theorem QT.sq {K : Kw} {ρ : Rho} {H : Hp} {a : Addr} {xs : List V} (h : QT K ρ H a xs) : SqT K H a xs := h.elim (fun q => .inl q.1) .inr
theorem QL.sq {K : Kw} {ρ : Rho} {H : Hp} {a : Addr} {xs : List V} (h : QL ρ H a xs) : SqL K H a xs := .inl (.inl h.1)
theorem QR.sq {K : Kw} {ρ : Rho} {H : Hp} {a : Addr} {xs : List V} (h : QR K ρ H a xs) : SqL K H a xs := h.elim (fun q => .inl q.1) .inr

mutual
def DV (K : Kw) (ρ : Rho) (H : Hp) : D → V → Prop
  | .non, v => v = .non
  | .bl b, v => v = .bl b
  | .int i, v => v = .int i
  | .str s, v => v = .str (Str.ofString s)
  | .tup ds, v => ∃ a vs, v = .ref a ∧ QT K ρ H a vs ∧ DVs K ρ H ds vs
  | .lst ds, v => ∃ a vs, v = .ref a ∧ QL ρ H a vs ∧ DVs K ρ H ds vs
  | .rol ds, v => ∃ a vs, v = .ref a ∧ QR K ρ H a vs ∧ DVs K ρ H ds vs
  | .ref n, v => ∃ a, v = .ref a ∧ ρ.r[n]? = some a
def DVs (K : Kw) (ρ : Rho) (H : Hp) : List D → List V → Prop
  | [], vs => vs = []
  | d :: ds, vs => ∃ v r, vs = v :: r ∧ DV K ρ H d v ∧ DVs K ρ H ds r
end

/-- the world goes on: new mutable objects at the end, new hidden ones; all else that was tracked stays -/
structure Ext (ρ : Rho) (H : Hp) (ρ' : Rho) (H' : Hp) : Prop where
  more : ∃ t u, ρ' = ⟨ρ.r ++ t, u ++ ρ.w⟩ ∧ (∀ a ∈ t, H a = none) ∧ ∀ a ∈ u, H a = none
  keep : ∀ a o, H a = some o → a ∉ ρ.r → H' a = some o
  there : ∀ a, H a ≠ none → H' a ≠ none

theorem Ext.refl (ρ : Rho) (H : Hp) : Ext ρ H ρ H := ⟨⟨[], [], by simp, fun a h => (by cases h), fun a h => (by cases h)⟩, fun _ _ h _ => h, fun _ h => h⟩
theorem Ext.outr {ρ ρ' : Rho} {H H' : Hp} (e : Ext ρ H ρ' H') {a : Addr} (h : H a ≠ none) (n : a ∉ ρ.r) : a ∉ ρ'.r := by
  obtain ⟨t, u, rfl, ht, hu⟩ := e.more
  intro m
  rcases List.mem_append.mp m with m | m
  · exact n m
  · exact h (ht a m)
theorem Ext.out {ρ ρ' : Rho} {H H' : Hp} (e : Ext ρ H ρ' H') {a : Addr} (h : H a ≠ none) (n : a ∉ ρ) : a ∉ ρ' := by
  obtain ⟨t, u, rfl, ht, hu⟩ := e.more
  intro m
  rcases m with m | m
  · rcases List.mem_append.mp m with m | m
    · exact n (.inl m)
    · exact h (ht a m)
  · rcases List.mem_append.mp m with m | m
    · exact h (hu a m)
    · exact n (.inr m)
theorem Ext.trans {ρ ρ1 ρ2 : Rho} {H H1 H2 : Hp} (e : Ext ρ H ρ1 H1) (f : Ext ρ1 H1 ρ2 H2) : Ext ρ H ρ2 H2 := by
  refine ⟨?_, fun a o h n => f.keep a o (e.keep a o h n) (e.outr (by rw [h]; simp) n), fun a h => f.there a (e.there a h)⟩
  obtain ⟨t, u, rfl, ht, hu⟩ := e.more
  obtain ⟨t', u', rfl, ht', hu'⟩ := f.more
  have back : ∀ a, H1 a = none → H a = none := fun a m => by
    cases q : H a with
    | none => rfl
    | some o => exact absurd m (e.there a (by rw [q]; simp))
  refine ⟨t ++ t', u' ++ u, by simp, fun a m => ?_, fun a m => ?_⟩
  · rcases List.mem_append.mp m with m | m
    · exact ht a m
    · exact back a (ht' a m)
  · rcases List.mem_append.mp m with m | m
    · exact back a (hu' a m)
    · exact hu a m
theorem Ext.get {ρ ρ' : Rho} {H H' : Hp} (e : Ext ρ H ρ' H') {n : Nat} {a : Addr} (h : ρ.r[n]? = some a) : ρ'.r[n]? = some a := by
  obtain ⟨t, u, rfl, _⟩ := e.more
  have := (List.getElem?_eq_some_iff.mp h).1
  show (ρ.r ++ t)[n]? = some a
  rw [List.getElem?_append_left this]; exact h
theorem Ext.hidden {ρ ρ' : Rho} {H H' : Hp} (e : Ext ρ H ρ' H') {a : Addr} (h : a ∈ ρ.w) : a ∈ ρ'.w := by
  obtain ⟨t, u, rfl, _⟩ := e.more
  exact List.mem_append_right _ h
theorem keep_fresh {H : Hp} {p : Addr} {o : HO} (n : H p = none) (a : Addr) (u : HO) (h : H a = some u) : upd H p o a = some u := by
  rw [upd_ne (ne_of_none h n)]; exact h
theorem there_upd {H : Hp} {p : Addr} {o : HO} (a : Addr) (h : H a ≠ none) : upd H p o a ≠ none := by
  by_cases z : a = p
  · subst z; rw [upd_same]; simp
  · rw [upd_ne z]; exact h
theorem Ext.fresh {ρ : Rho} {H : Hp} {p : Addr} {o : HO} (n : H p = none) : Ext ρ H ρ (upd H p o) :=
  ⟨⟨[], [], by simp, fun a h => (by cases h), fun a h => (by cases h)⟩, fun a u h _ => keep_fresh n a u h, there_upd⟩
theorem Ext.push {ρ : Rho} {H : Hp} {p : Addr} {o : HO} (n : H p = none) : Ext ρ H (ρ.push p) (upd H p o) :=
  ⟨⟨[p], [], rfl, fun a h => (by cases List.mem_singleton.mp h; exact n), fun a h => (by cases h)⟩, fun a u h _ => keep_fresh n a u h, there_upd⟩
/-- an address is hidden -/
def Rho.hide (ρ : Rho) (p : Addr) : Rho := ⟨ρ.r, p :: ρ.w⟩
theorem Ext.hide {ρ : Rho} {H : Hp} {p : Addr} {o : HO} (n : H p = none) : Ext ρ H (ρ.hide p) (upd H p o) :=
  ⟨⟨[], [p], by simp [Rho.hide], fun a h => (by cases h), fun a h => (by cases List.mem_singleton.mp h; exact n)⟩, fun a u h _ => keep_fresh n a u h, there_upd⟩
theorem Ext.mut {ρ : Rho} {H : Hp} {p : Addr} {o : HO} (m : p ∈ ρ.r) : Ext ρ H ρ (upd H p o) :=
  ⟨⟨[], [], by simp, fun a h => (by cases h), fun a h => (by cases h)⟩, fun a u h q => by rw [upd_ne (fun z : a = p => q (by rw [z]; exact m))]; exact h, there_upd⟩

section
variable {K : Kw} {ρ ρ' : Rho} {H H' : Hp}
theorem Rd.ext {u : HO} {a : Addr} (e : Ext ρ H ρ' H') (h : Rd H a u) (n : a ∉ ρ) : Rd H' a u ∧ a ∉ ρ' := by
  rcases h with h | ⟨o, h⟩
  · exact ⟨.inl (e.keep _ _ h fun m => n (.inl m)), e.out (by rw [h]; simp) n⟩
  · exact ⟨.inr ⟨o, e.keep _ _ h fun m => n (.inl m)⟩, e.out (by rw [h]; simp) n⟩
theorem QT.ext {a : Addr} {xs : List V} (e : Ext ρ H ρ' H') (h : QT K ρ H a xs) : QT K ρ' H' a xs :=
  h.elim (fun q => .inl (Rd.ext e q.1 q.2)) .inr
theorem QL.ext {a : Addr} {xs : List V} (e : Ext ρ H ρ' H') (h : QL ρ H a xs) : QL ρ' H' a xs := ⟨e.keep _ _ h.1 (fun m => h.2 (.inl m)), e.out (by rw [h.1]; simp) h.2⟩
theorem QR.ext {a : Addr} {xs : List V} (e : Ext ρ H ρ' H') (h : QR K ρ H a xs) : QR K ρ' H' a xs :=
  h.elim (fun q => .inl (Rd.ext e q.1 q.2)) .inr
mutual
theorem DV.ext (e : Ext ρ H ρ' H') : ∀ (d : D) {v : V}, DV K ρ H d v → DV K ρ' H' d v
  | .non, _, h => h
  | .bl _, _, h => h
  | .int _, _, h => h
  | .str _, _, h => h
  | .tup ds, _, h => by
    simp only [DV] at h ⊢
    obtain ⟨a, vs, e1, q, r⟩ := h
    exact ⟨a, vs, e1, q.ext e, DVs.ext e ds r⟩
  | .lst ds, _, h => by
    simp only [DV] at h ⊢
    obtain ⟨a, vs, e1, q, r⟩ := h
    exact ⟨a, vs, e1, q.ext e, DVs.ext e ds r⟩
  | .rol ds, _, h => by
    simp only [DV] at h ⊢
    obtain ⟨a, vs, e1, q, r⟩ := h
    exact ⟨a, vs, e1, q.ext e, DVs.ext e ds r⟩
  | .ref n, _, h => by
    simp only [DV] at h ⊢
    obtain ⟨a, e1, q⟩ := h
    exact ⟨a, e1, e.get q⟩
theorem DVs.ext (e : Ext ρ H ρ' H') : ∀ (ds : List D) {vs : List V}, DVs K ρ H ds vs → DVs K ρ' H' ds vs
  | [], _, h => h
  | d :: ds, _, h => by
    simp only [DVs] at h ⊢
    obtain ⟨v, r, e1, q, z⟩ := h
    exact ⟨v, r, e1, DV.ext e d q, DVs.ext e ds z⟩
end
theorem DVs.length : ∀ {ds : List D} {vs : List V}, DVs K ρ H ds vs → ds.length = vs.length
  | [], _, h => by simp only [DVs] at h; subst h; rfl
  | d :: ds, _, h => by
    simp only [DVs] at h
    obtain ⟨v, r, rfl, _, z⟩ := h
    simp [DVs.length z]
theorem DVs.get : ∀ {ds : List D} {vs : List V} {i : Nat} {d : D}, DVs K ρ H ds vs → ds[i]? = some d → ∃ v, vs[i]? = some v ∧ DV K ρ H d v
  | [], _, _, _, _, e => by simp at e
  | d :: ds, _, 0, _, h, e => by
    simp only [DVs] at h
    obtain ⟨v, r, rfl, q, z⟩ := h
    simp at e; subst e
    exact ⟨v, by simp, q⟩
  | d :: ds, _, i + 1, _, h, e => by
    simp only [DVs] at h
    obtain ⟨v, r, rfl, q, z⟩ := h
    obtain ⟨w, e1, q1⟩ := DVs.get (i := i) z (by simpa using e)
    exact ⟨w, by simpa using e1, q1⟩
theorem DVs.get' {ds : List D} {vs : List V} {i : Nat} {v : V} (h : DVs K ρ H ds vs) (e : vs[i]? = some v) : ∃ d, ds[i]? = some d ∧ DV K ρ H d v := by
  have hl := h.length
  have hi := (List.getElem?_eq_some_iff.mp e).1
  have hd : ds[i]? = some ds[i] := List.getElem?_eq_getElem (by omega)
  obtain ⟨w, e1, q⟩ := h.get hd
  rw [e] at e1; cases e1
  exact ⟨_, hd, q⟩
theorem DVs.append : ∀ {ds es : List D} {vs us : List V}, DVs K ρ H ds vs → DVs K ρ H es us → DVs K ρ H (ds ++ es) (vs ++ us)
  | [], _, _, _, h, g => by simp only [DVs] at h; subst h; exact g
  | d :: ds, _, _, _, h, g => by
    simp only [DVs] at h
    obtain ⟨v, r, rfl, q, z⟩ := h
    simp only [List.cons_append, DVs]
    exact ⟨v, _, rfl, q, DVs.append z g⟩
theorem DVs.one {d : D} {v : V} (h : DV K ρ H d v) : DVs K ρ H [d] [v] := by
  simp only [DVs]; exact ⟨v, [], rfl, h, rfl⟩
theorem DVs.nil : DVs K ρ H [] [] := by simp only [DVs]
theorem DVs.cons {d : D} {v : V} {ds : List D} {vs : List V} (h : DV K ρ H d v) (g : DVs K ρ H ds vs) : DVs K ρ H (d :: ds) (v :: vs) := by
  simp only [DVs]; exact ⟨v, vs, rfl, h, g⟩
theorem DVs.drop : ∀ (n : Nat) {ds : List D} {vs : List V}, DVs K ρ H ds vs → DVs K ρ H (ds.drop n) (vs.drop n)
  | 0, _, _, h => h
  | n + 1, [], _, h => by simp only [DVs] at h; subst h; exact .nil
  | n + 1, d :: ds, _, h => by
    simp only [DVs] at h
    obtain ⟨v, r, rfl, q, z⟩ := h
    exact DVs.drop n z
theorem DVs.take : ∀ (n : Nat) {ds : List D} {vs : List V}, DVs K ρ H ds vs → DVs K ρ H (ds.take n) (vs.take n)
  | 0, _, _, h => .nil
  | n + 1, [], _, h => by simp only [DVs] at h; subst h; exact .nil
  | n + 1, d :: ds, _, h => by
    simp only [DVs] at h
    obtain ⟨v, r, rfl, q, z⟩ := h
    exact .cons q (DVs.take n z)
theorem DVs.set {d : D} {v : V} (g : DV K ρ H d v) : ∀ (n : Nat) {ds : List D} {vs : List V}, DVs K ρ H ds vs → DVs K ρ H (ds.set n d) (vs.set n v)
  | _, [], _, h => by simp only [DVs] at h; subst h; exact .nil
  | 0, e :: ds, _, h => by
    simp only [DVs] at h
    obtain ⟨w, r, rfl, q, z⟩ := h
    exact .cons g z
  | n + 1, e :: ds, _, h => by
    simp only [DVs] at h
    obtain ⟨w, r, rfl, q, z⟩ := h
    exact .cons q (DVs.set g n z)
theorem DVs.reverse : ∀ {ds : List D} {vs : List V}, DVs K ρ H ds vs → DVs K ρ H ds.reverse vs.reverse
  | [], _, h => by simp only [DVs] at h; subst h; exact .nil
  | d :: ds, _, h => by
    simp only [DVs] at h
    obtain ⟨v, r, rfl, q, z⟩ := h
    simp only [List.reverse_cons]
    exact (DVs.reverse z).append (.one q)
theorem DVs.dropLast {ds : List D} {vs : List V} (h : DVs K ρ H ds vs) : DVs K ρ H ds.dropLast vs.dropLast := by
  rw [List.dropLast_eq_take, List.dropLast_eq_take, h.length]; exact h.take _
theorem DVs.replicate {d : D} {v : V} (g : DV K ρ H d v) : ∀ n : Nat, DVs K ρ H (List.replicate n d) (List.replicate n v)
  | 0 => .nil
  | n + 1 => .cons g (DVs.replicate g n)
theorem DVs.rep {ds : List D} {vs : List V} (g : DVs K ρ H ds vs) : ∀ n : Nat, DVs K ρ H (List.replicate n ds).flatten (List.replicate n vs).flatten
  | 0 => .nil
  | n + 1 => by
    simp only [List.replicate_succ, List.flatten_cons]
    exact g.append (DVs.rep g n)
theorem DVs.ints : ∀ {ns : List Int} {vs : List V}, DVs K ρ H (ns.map D.int) vs → vs = ns.map V.int
  | [], _, h => by simp only [List.map_nil, DVs] at h; exact h
  | n :: ns, _, h => by
    simp only [List.map_cons, DVs, DV] at h
    obtain ⟨v, r, rfl, rfl, z⟩ := h
    rw [DVs.ints z, List.map_cons]
theorem DVs.of_ints : ∀ (ns : List Int), DVs K ρ H (ns.map D.int) (ns.map V.int)
  | [] => .nil
  | n :: ns => by
    simp only [List.map_cons]
    exact .cons (by simp only [DV]) (DVs.of_ints ns)
end

mutual
def nk : D → NestedKey
  | .non => .none
  | .bl b => .num (if b then 1 else 0)
  | .int i => .num i
  | .str s => .text (Str.ofString s)
  | .tup ds => .tup (nks ds)
  | .lst _ => .none
  | .rol _ => .none
  | .ref _ => .none
def nks : List D → List NestedKey
  | [] => []
  | d :: ds => nk d :: nks ds
end
/-- a dict's entry is represented -/
def EOk (K : Kw) (ρ : Rho) (H : Hp) (p : D × D) (q : NestedKey × Addr × Value) : Prop := kyD p.1 = true ∧ q.1 = nk p.1 ∧ DV K ρ H p.1 (.ref q.2.1) ∧ ∃ v, DV K ρ H p.2 v ∧ RelV v q.2.2
/-- the object of a dict -/
def dctPhi (w : World) (a : Addr) (xs : List (NestedKey × Addr × Value)) : Heap → Prop := fun h => ∃ o es ep, h.get? a = some o ∧ o.ExactDict ∧ o.data = .dict es ep ∧ es.toList = xs.map (fun x => (⟨x.1.hash w, .ref x.2.1, x.2.2⟩ : DictEntry)) ∧ (xs.map (·.1)).Nodup
/-- a mutable object is represented -/
def AOk (K : Kw) (ρ : Rho) (H : Hp) (a : Addr) : AO → Prop
  | .lst ds => ∃ vs, H a = some (.lst vs) ∧ DVs K ρ H ds vs
  | .dct kvs => (a == sysModules) = false ∧ ∃ xs, Paired (EOk K ρ H) kvs xs ∧ H a = some (.ext (dctPhi K.w a xs))
  | .ids ks => H a = some (.dK (ks.map fun k => (Sum.inl k, V.bl true)))
structure RepH (K : Kw) (ρ : Rho) (H : Hp) (h : AH) : Prop where
  len : ρ.r.length = h.length
  nd : ρ.r.Nodup
  hid : ∀ a ∈ ρ.w, a ∉ ρ.r ∧ H a ≠ none
  obj : ∀ (n : Nat) (a : Addr) (o : AO), ρ.r[n]? = some a → h[n]? = some o → AOk K ρ H a o
structure RepS (K : Kw) (ρ : Rho) (H : Hp) (σ : L2.St) (σd : Sl) : Prop where
  len : σ.length = σd.length
  val : ∀ (i : Nat) (d : D), σd[i]? = some (some d) → ∃ v, σ[i]? = some (some v) ∧ DV K ρ H d v

section
variable {K : Kw} {ρ ρ' : Rho} {H H' : Hp} {h : AH} {σ : L2.St} {σd : Sl}
theorem EOk.ext {p : D × D} {q : NestedKey × Addr × Value} (e : Ext ρ H ρ' H') (h : EOk K ρ H p q) : EOk K ρ' H' p q := let ⟨c, n, k, v, y, r⟩ := h; ⟨c, n, DV.ext e _ k, v, DV.ext e _ y, r⟩
theorem AOk.some {a : Addr} {o : AO} (q : AOk K ρ H a o) : ∃ u, H a = some u := by
  cases o with
  | lst ds => obtain ⟨vs, e, _⟩ := q; exact ⟨_, e⟩
  | dct kvs => obtain ⟨_, xs, _, e⟩ := q; exact ⟨_, e⟩
  | ids ks => exact ⟨_, q⟩
theorem RepH.at (r : RepH K ρ H h) {n : Nat} {o : AO} (e : h[n]? = some o) : ∃ a, ρ.r[n]? = some a ∧ AOk K ρ H a o := by
  have hn := (List.getElem?_eq_some_iff.mp e).1
  have hl := r.len
  exact ⟨ρ.r[n], List.getElem?_eq_getElem (by omega), r.obj n _ o (List.getElem?_eq_getElem (by omega)) e⟩
theorem RepH.at' (r : RepH K ρ H h) {n : Nat} {a : Addr} (e : ρ.r[n]? = some a) : ∃ o, h[n]? = some o ∧ AOk K ρ H a o := by
  have hn := (List.getElem?_eq_some_iff.mp e).1
  have hl := r.len
  exact ⟨h[n], List.getElem?_eq_getElem (by omega), r.obj n _ _ e (List.getElem?_eq_getElem (by omega))⟩
theorem RepH.mem (r : RepH K ρ H h) {a : Addr} (m : a ∈ ρ) : H a ≠ none := by
  rcases m with m | m
  · obtain ⟨n, hn, e⟩ := List.getElem_of_mem m
    obtain ⟨o, _, q⟩ := r.at' (n := n) (a := a) (by rw [List.getElem?_eq_getElem hn, e])
    obtain ⟨u, e⟩ := q.some
    rw [e]; simp
  · exact (r.hid a m).2
theorem RepH.notMem (r : RepH K ρ H h) {p : Addr} (n : H p = none) : p ∉ ρ := fun m => r.mem m n
theorem AOk.ext {a : Addr} {o : AO} (e : Ext ρ H ρ' H') (hk : H' a = H a) (q : AOk K ρ H a o) : AOk K ρ' H' a o := by
  cases o with
  | lst ds => obtain ⟨vs, e1, r⟩ := q; exact ⟨vs, hk.trans e1, DVs.ext e ds r⟩
  | dct kvs => obtain ⟨z, xs, r, e1⟩ := q; exact ⟨z, xs, Paired.mapP r fun _ _ y => y.ext e, hk.trans e1⟩
  | ids ks => exact hk.trans q
theorem RepH.fresh (r : RepH K ρ H h) {p : Addr} {o : HO} (n : H p = none) : RepH K ρ (upd H p o) h :=
  ⟨r.len, r.nd, fun a m => ⟨(r.hid a m).1, (Ext.fresh (ρ := ρ) n).there a (r.hid a m).2⟩, fun i a u e1 e2 => (r.obj i a u e1 e2).ext (Ext.fresh n) (upd_ne (fun z : a = p => r.notMem n (by rw [← z]; exact Rho.mem_get e1)))⟩
theorem RepH.push (r : RepH K ρ H h) {p : Addr} {vs : List V} {ds : List D} (n : H p = none) (q : DVs K ρ H ds vs) : RepH K (ρ.push p) (upd H p (.lst vs)) (h ++ [.lst ds]) := by
  have np : p ∉ ρ.r := fun z => r.notMem n (.inl z)
  refine ⟨by simp [Rho.push, r.len], ?_, fun a m => ⟨fun z => ?_, (Ext.fresh (ρ := ρ) n).there a (r.hid a m).2⟩, fun i a u e1 e2 => ?_⟩
  · show (ρ.r ++ [p]).Nodup
    rw [List.nodup_append]
    refine ⟨r.nd, by simp, fun a ha b hb => ?_⟩
    cases List.mem_singleton.mp hb
    intro z; subst z
    exact np ha
  · rcases List.mem_append.mp z with z | z
    · exact (r.hid a m).1 z
    · cases List.mem_singleton.mp z
      exact r.notMem n (.inr m)
  · have e : Ext ρ H (ρ.push p) (upd H p (.lst vs)) := Ext.push n
    have e1 : (ρ.r ++ [p])[i]? = some a := e1
    by_cases hi : i < ρ.r.length
    · rw [List.getElem?_append_left hi] at e1
      rw [List.getElem?_append_left (by rw [← r.len]; exact hi)] at e2
      exact (r.obj i a u e1 e2).ext e (upd_ne (fun z : a = p => r.notMem n (by rw [← z]; exact Rho.mem_get e1)))
    · have h1 : i = ρ.r.length := by
        have := (List.getElem?_eq_some_iff.mp e1).1
        simp at this; omega
      subst h1
      rw [List.getElem?_append_right (Nat.le_refl _)] at e1
      rw [List.getElem?_append_right (by rw [r.len]; exact Nat.le_refl _)] at e2
      simp [r.len] at e1 e2
      subst e1; subst e2
      exact ⟨vs, upd_same, DVs.ext e ds q⟩
theorem RepH.set (r : RepH K ρ H h) {k : Nat} {p : Addr} {vs : List V} {ds : List D} (hk : ρ.r[k]? = some p) (q : DVs K ρ H ds vs) : RepH K ρ (upd H p (.lst vs)) (h.set k (.lst ds)) := by
  have e : Ext ρ H ρ (upd H p (.lst vs)) := Ext.mut (List.mem_of_getElem? hk)
  refine ⟨by simp [r.len], r.nd, fun a m => ⟨(r.hid a m).1, e.there a (r.hid a m).2⟩, fun i a u e1 e2 => ?_⟩
  by_cases hi : i = k
  · subst hi
    rw [hk] at e1; cases e1
    have hl := (List.getElem?_eq_some_iff.mp hk).1
    rw [r.len] at hl
    rw [List.getElem?_set_self hl] at e2
    cases e2
    exact ⟨vs, upd_same, DVs.ext e ds q⟩
  · rw [List.getElem?_set_ne (Ne.symm hi)] at e2
    refine (r.obj i a u e1 e2).ext e (upd_ne fun z => hi ?_)
    subst z
    obtain ⟨h1, e1'⟩ := List.getElem?_eq_some_iff.mp e1
    obtain ⟨h2, e2'⟩ := List.getElem?_eq_some_iff.mp hk
    exact (List.getElem_inj r.nd).mp (e1'.trans e2'.symm)
theorem RepH.hide (r : RepH K ρ H h) {p : Addr} {o : HO} (n : H p = none) : RepH K (ρ.hide p) (upd H p o) h := by
  have e : Ext ρ H (ρ.hide p) (upd H p o) := Ext.hide n
  refine ⟨r.len, r.nd, fun a m => ?_, fun i a u e1 e2 => ?_⟩
  · rcases List.mem_cons.mp m with z | m
    · subst z
      exact ⟨fun z => r.notMem n (.inl z), by rw [upd_same]; simp⟩
    · exact ⟨(r.hid a m).1, e.there a (r.hid a m).2⟩
  · exact (r.obj i a u e1 e2).ext e (upd_ne fun z => r.notMem n (by rw [← z]; exact Rho.mem_get e1))
mutual
/-- fewer are hidden -/
theorem DV.less (hr : ρ'.r = ρ.r) (hw : ∀ a ∈ ρ'.w, a ∈ ρ.w) : ∀ (d : D) {v : V}, DV K ρ H d v → DV K ρ' H d v
  | .non, _, h => h
  | .bl _, _, h => h
  | .int _, _, h => h
  | .str _, _, h => h
  | .tup ds, _, h => by
    simp only [DV] at h ⊢
    obtain ⟨a, vs, e1, q, r⟩ := h
    exact ⟨a, vs, e1, q.elim (fun q => .inl ⟨q.1, fun m => q.2 (m.elim (fun m => .inl (hr ▸ m)) fun m => .inr (hw a m))⟩) .inr, DVs.less hr hw ds r⟩
  | .lst ds, _, h => by
    simp only [DV] at h ⊢
    obtain ⟨a, vs, e1, q, r⟩ := h
    exact ⟨a, vs, e1, ⟨q.1, fun m => q.2 (m.elim (fun m => .inl (hr ▸ m)) fun m => .inr (hw a m))⟩, DVs.less hr hw ds r⟩
  | .rol ds, _, h => by
    simp only [DV] at h ⊢
    obtain ⟨a, vs, e1, q, r⟩ := h
    exact ⟨a, vs, e1, q.elim (fun q => .inl ⟨q.1, fun m => q.2 (m.elim (fun m => .inl (hr ▸ m)) fun m => .inr (hw a m))⟩) .inr, DVs.less hr hw ds r⟩
  | .ref k, _, h => by
    simp only [DV] at h ⊢
    rw [hr]; exact h
theorem DVs.less (hr : ρ'.r = ρ.r) (hw : ∀ a ∈ ρ'.w, a ∈ ρ.w) : ∀ (ds : List D) {vs : List V}, DVs K ρ H ds vs → DVs K ρ' H ds vs
  | [], _, h => h
  | d :: ds, _, h => by
    simp only [DVs] at h ⊢
    obtain ⟨v, r, e1, q, z⟩ := h
    exact ⟨v, r, e1, DV.less hr hw d q, DVs.less hr hw ds z⟩
end
theorem RepH.less (r : RepH K ρ H h) (hr : ρ'.r = ρ.r) (hw : ∀ a ∈ ρ'.w, a ∈ ρ.w) : RepH K ρ' H h :=
  ⟨by rw [hr]; exact r.len, by rw [hr]; exact r.nd, fun a m => by rw [hr]; exact r.hid a (hw a m), fun i a u e1 e2 => by
    have q := r.obj i a u (by rw [← hr]; exact e1) e2
    cases u with
    | lst ds => obtain ⟨vs, e3, y⟩ := q; exact ⟨vs, e3, DVs.less hr hw ds y⟩
    | dct kvs => obtain ⟨z, xs, y, e3⟩ := q; exact ⟨z, xs, Paired.mapP y fun _ _ ⟨c, n, k, v, y, r⟩ => ⟨c, n, DV.less hr hw _ k, v, DV.less hr hw _ y, r⟩, e3⟩
    | ids ks => exact q⟩
mutual
/-- what is hidden, or a mutable object, may be written: no data that are shared see it -/
theorem DV.upd {p : Addr} {o : HO} (m : p ∈ ρ) : ∀ (d : D) {v : V}, DV K ρ H d v → DV K ρ (L2.upd H p o) d v
  | .non, _, h => h
  | .bl _, _, h => h
  | .int _, _, h => h
  | .str _, _, h => h
  | .tup ds, _, h => by
    simp only [DV] at h ⊢
    obtain ⟨a, vs, e1, q, r⟩ := h
    refine ⟨a, vs, e1, q.elim (fun q => .inl ⟨?_, q.2⟩) .inr, DVs.upd m ds r⟩
    have ne : a ≠ p := fun z => q.2 (z ▸ m)
    rcases q.1 with z | ⟨o, z⟩
    · exact .inl (by rw [upd_ne ne]; exact z)
    · exact .inr ⟨o, by rw [upd_ne ne]; exact z⟩
  | .lst ds, _, h => by
    simp only [DV] at h ⊢
    obtain ⟨a, vs, e1, q, r⟩ := h
    have ne : a ≠ p := fun z => q.2 (z ▸ m)
    exact ⟨a, vs, e1, ⟨by rw [upd_ne ne]; exact q.1, q.2⟩, DVs.upd m ds r⟩
  | .rol ds, _, h => by
    simp only [DV] at h ⊢
    obtain ⟨a, vs, e1, q, r⟩ := h
    refine ⟨a, vs, e1, q.elim (fun q => .inl ⟨?_, q.2⟩) .inr, DVs.upd m ds r⟩
    have ne : a ≠ p := fun z => q.2 (z ▸ m)
    rcases q.1 with z | ⟨o, z⟩
    · exact .inl (by rw [upd_ne ne]; exact z)
    · exact .inr ⟨o, by rw [upd_ne ne]; exact z⟩
  | .ref k, _, h => h
theorem DVs.upd {p : Addr} {o : HO} (m : p ∈ ρ) : ∀ (ds : List D) {vs : List V}, DVs K ρ H ds vs → DVs K ρ (L2.upd H p o) ds vs
  | [], _, h => h
  | d :: ds, _, h => by
    simp only [DVs] at h ⊢
    obtain ⟨v, r, e1, q, z⟩ := h
    exact ⟨v, r, e1, DV.upd m d q, DVs.upd m ds z⟩
end
theorem RepH.updw (r : RepH K ρ H h) {p : Addr} {o : HO} (m : p ∈ ρ.w) : RepH K ρ (L2.upd H p o) h :=
  ⟨r.len, r.nd, fun a m => ⟨(r.hid a m).1, there_upd a (r.hid a m).2⟩, fun i a u e1 e2 => by
    have ne : a ≠ p := fun z => (r.hid p m).1 (by rw [← z]; exact List.mem_of_getElem? e1)
    have q := r.obj i a u e1 e2
    cases u with
    | lst ds => obtain ⟨vs, e3, y⟩ := q; exact ⟨vs, by rw [upd_ne ne]; exact e3, DVs.upd (.inr m) ds y⟩
    | dct kvs => obtain ⟨z, xs, y, e3⟩ := q; exact ⟨z, xs, Paired.mapP y fun _ _ ⟨c, n, k, v, y, r⟩ => ⟨c, n, DV.upd (.inr m) _ k, v, DV.upd (.inr m) _ y, r⟩, by rw [upd_ne ne]; exact e3⟩
    | ids ks => exact (upd_ne ne).trans q⟩
theorem RepS.updw (r : RepS K ρ H σ σd) {p : Addr} {o : HO} (m : p ∈ ρ.w) : RepS K ρ (L2.upd H p o) σ σd :=
  ⟨r.len, fun i d q => let ⟨v, e1, z⟩ := r.val i d q; ⟨v, e1, DV.upd (.inr m) d z⟩⟩
theorem Ext.updw {ρ ρ' : Rho} {H H' : Hp} (e : Ext ρ H ρ' H') {p : Addr} {o : HO} (n : H p = none) : Ext ρ H ρ' (L2.upd H' p o) :=
  ⟨e.more, fun a u h q => by rw [upd_ne (ne_of_none h n)]; exact e.keep a u h q, fun a h => there_upd a (e.there a h)⟩
/-- .. and shown -/
theorem Ext.show {ρ ρ' : Rho} {H H' : Hp} (e : Ext ρ H ρ' H') {p : Addr} (n : H p = none) (nr : p ∉ ρ'.r) (nw : p ∉ ρ.w) : ∃ ρf : Rho, Ext ρ H ρf H' ∧ p ∉ ρf ∧ ρf.r = ρ'.r ∧ ∀ a ∈ ρf.w, a ∈ ρ'.w := by
  obtain ⟨t, u, rfl, ht, hu⟩ := e.more
  refine ⟨⟨ρ.r ++ t, u.filter (fun a => decide (a ≠ p)) ++ ρ.w⟩, ⟨⟨t, _, rfl, ht, fun a m => hu a (List.mem_filter.mp m).1⟩, e.keep, e.there⟩, fun m => ?_, rfl, fun a m => ?_⟩
  · rcases m with m | m
    · exact nr m
    · rcases List.mem_append.mp m with m | m
      · have := (List.mem_filter.mp m).2
        simp at this
      · exact nw m
  · rcases List.mem_append.mp m with m | m
    · exact List.mem_append_left _ (List.mem_filter.mp m).1
    · exact List.mem_append_right _ m
theorem RepS.ext (r : RepS K ρ H σ σd) (e : Ext ρ H ρ' H') : RepS K ρ' H' σ σd :=
  ⟨r.len, fun i d q => let ⟨v, e1, z⟩ := r.val i d q; ⟨v, e1, DV.ext e d z⟩⟩
theorem RepS.set (r : RepS K ρ H σ σd) {i : Nat} {d : D} {v : V} (q : DV K ρ H d v) : RepS K ρ H (σ.set i (some v)) (σd.set i (some d)) := by
  refine ⟨by simp [r.len], fun j e h => ?_⟩
  by_cases hj : j = i
  · subst hj
    have hl := (List.getElem?_eq_some_iff.mp h).1
    rw [List.length_set] at hl
    rw [List.getElem?_set_self hl] at h
    cases h
    exact ⟨v, by rw [List.getElem?_set_self (by rw [r.len]; exact hl)], q⟩
  · rw [List.getElem?_set_ne (Ne.symm hj)] at h
    obtain ⟨w, e1, z⟩ := r.val j e h
    exact ⟨w, by rw [List.getElem?_set_ne (Ne.symm hj)]; exact e1, z⟩
end
end PyD

/-! PyD1: readings by data; operators. -/
namespace PyD
open PySem PySem.Spec PyProof.Rows L2

theorem lim_eq : (sizeLine : Nat) = lim := sizeLine_eq

/-- what is wanted behind an expression, by data -/
def Out (K : Kw) (ρ : Rho) (H : Hp) (d : D) (h' : AH) (Q : VK) : Prop :=
  ∀ v H' ρ', Ext ρ H ρ' H' → RepH K ρ' H' h' → DV K ρ' H' d v → Q v H'
def tD (K : Kw) (m : Sl → AH → Option (D × AH)) : TE := fun σ H Q =>
  ∃ ρ σd h d h', RepS K ρ H σ σd ∧ RepH K ρ H h ∧ m σd h = some (d, h') ∧ Out K ρ H d h' Q
def tDs (K : Kw) (m : Sl → AH → Option (List D × AH)) : TA := fun σ H Q =>
  ∃ ρ σd h ds h', RepS K ρ H σ σd ∧ RepH K ρ H h ∧ m σd h = some (ds, h') ∧ ∀ vs H' ρ', Ext ρ H ρ' H' → RepH K ρ' H' h' → DVs K ρ' H' ds vs → Q vs H'
def tDT (K : Kw) (m : Sl → AH → Option (Bool × AH)) : TT := fun σ H Q =>
  ∃ ρ σd h b h', RepS K ρ H σ σd ∧ RepH K ρ H h ∧ m σd h = some (b, h') ∧ ∀ H' ρ', Ext ρ H ρ' H' → RepH K ρ' H' h' → Q b H'
def tDO (K : Kw) (m : Sl → AH → Option (Option Int × AH)) : TO := fun σ H Q =>
  ∃ ρ σd h b h', RepS K ρ H σ σd ∧ RepH K ρ H h ∧ m σd h = some (b, h') ∧ ∀ H' ρ', Ext ρ H ρ' H' → RepH K ρ' H' h' → Q b H'
/-- a list is made, at last -/
def tDF (K : Kw) (m : Sl → AH → Option (List D × AH)) : TE := fun σ H Q =>
  ∃ ρ σd h ds h', RepS K ρ H σ σd ∧ RepH K ρ H h ∧ m σd h = some (ds, h') ∧
    ∀ p vs H' ρ', Ext ρ H ρ' H' → RepH K ρ' H' h' → H' p = none → DVs K ρ' H' ds vs → Q (.ref p) (upd H' p (.lst vs))

abbrev RE (X : Cx) (e : Expr) (m : Sl → AH → Option (D × AH)) : Prop := PE X e (tD X.kw m)
abbrev RT (X : Cx) (e : Expr) (m : Sl → AH → Option (Bool × AH)) : Prop := PT X e (tDT X.kw m)
abbrev RA (X : Cx) (es : List Expr) (m : Sl → AH → Option (List D × AH)) : Prop := PA X es (tDs X.kw m)
abbrev RO (X : Cx) (e : Option Expr) (m : Sl → AH → Option (Option Int × AH)) : Prop := PO X e (tDO X.kw m)
abbrev RF (X : Cx) (e : Expr) (m : Sl → AH → Option (List D × AH)) : Prop := PE X e (tDF X.kw m)

section
variable {X : Cx} {e : Expr}
theorem _root_.L2.PE.imp {t t' : TE} (h : PE X e t) (i : ∀ σ H Q, t' σ H Q → t σ H Q) : PE X e t' := ⟨fun pins s σ H Q I q => h.run pins s σ H Q I (i σ H Q q)⟩
theorem _root_.L2.PT.imp {t t' : TT} (h : PT X e t) (i : ∀ σ H Q, t' σ H Q → t σ H Q) : PT X e t' := ⟨fun pins s σ H Q I q => h.run pins s σ H Q I (i σ H Q q)⟩
theorem _root_.L2.PW.imp {t t' : TT} (h : PW X e t) (i : ∀ σ H Q, t' σ H Q → t σ H Q) : PW X e t' := ⟨fun wh pins s σ H Q I q => h.run wh pins s σ H Q I (i σ H Q q)⟩
theorem _root_.L2.PA.imp {es : List Expr} {t t' : TA} (h : PA X es t) (i : ∀ σ H Q, t' σ H Q → t σ H Q) : PA X es t' := ⟨fun pos pins s σ H Q I q => h.run pos pins s σ H Q I (i σ H Q q)⟩
theorem _root_.L2.PO.imp {o : Option Expr} {t t' : TO} (h : PO X o t) (i : ∀ σ H Q, t' σ H Q → t σ H Q) : PO X o t' := ⟨fun pins s σ H Q I q => h.run pins s σ H Q I (i σ H Q q)⟩
theorem _root_.L2.PS.imp {st : Stmt} {t t' : TS} (h : PS X st t) (i : ∀ D σ H, t' D σ H → t D σ H) : PS X st t' := ⟨fun pins s σ H D I q => h.run pins s σ H D I (i D σ H q)⟩
theorem _root_.L2.PSs.imp {st : List Stmt} {t t' : TS} (h : PSs X st t) (i : ∀ D σ H, t' D σ H → t D σ H) : PSs X st t' := ⟨fun pins s σ H D I q => h.run pins s σ H D I (i D σ H q)⟩
end

section
variable {K : Kw} {ρ ρ' : Rho} {H H' : Hp} {h h' : AH} {d : D} {v : V} {Q : VK}
theorem Out.here (o : Out K ρ H d h Q) (r : RepH K ρ H h) (q : DV K ρ H d v) : Q v H := o v H ρ (Ext.refl _ _) r q
theorem Out.ext (o : Out K ρ H d h' Q) (e : Ext ρ H ρ' H') : Out K ρ' H' d h' Q := fun v H2 ρ2 e2 r q => o v H2 ρ2 (e.trans e2) r q
/-- a new tuple -/
theorem Out.tup {ds : List D} {vs : List V} (o : Out K ρ H (.tup ds) h Q) (r : RepH K ρ H h) (q : DVs K ρ H ds vs) : ∀ p, H p = none → Q (.ref p) (upd H p (.tup vs)) := fun p n => by
  refine o _ _ ρ (Ext.fresh n) (r.fresh n) ?_
  simp only [DV]
  exact ⟨p, vs, rfl, .inl ⟨.inl upd_same, r.notMem n⟩, DVs.ext (Ext.fresh n) ds q⟩
theorem Out.lst {ds : List D} {vs : List V} (o : Out K ρ H (.lst ds) h Q) (r : RepH K ρ H h) (q : DVs K ρ H ds vs) : ∀ p, H p = none → Q (.ref p) (upd H p (.lst vs)) := fun p n => by
  refine o _ _ ρ (Ext.fresh n) (r.fresh n) ?_
  simp only [DV]
  exact ⟨p, vs, rfl, ⟨upd_same, r.notMem n⟩, DVs.ext (Ext.fresh n) ds q⟩
end

/-- a two-place operation on data -/
def rB (K : Kw) (g : D → D → AH → Option D) : R2 := fun x y H Q =>
  ∃ ρ h a b d, RepH K ρ H h ∧ DV K ρ H a x ∧ DV K ρ H b y ∧ g a b h = some d ∧ Out K ρ H d h Q
def rU1 (K : Kw) (g : D → AH → Option D) : V → Hp → VK → Prop := fun x H Q =>
  ∃ ρ h a d, RepH K ρ H h ∧ DV K ρ H a x ∧ g a h = some d ∧ Out K ρ H d h Q
theorem tOp_imp {K : Kw} {ma mb : Sl → AH → Option (D × AH)} {g : D → D → AH → Option D} (σ : L2.St) (H : Hp) (Q : VK)
    (q : tD K (fun σ h => (ma σ h).bind fun (x, h1) => (mb σ h1).bind fun (y, h2) => (g x y h2).bind fun z => some (z, h2)) σ H Q) : tOp (rB K g) (tD K ma) (tD K mb) σ H Q := by
  obtain ⟨ρ, σd, h, d, h', rs, rh, e, o⟩ := q
  cases ea : ma σd h with
  | none => simp [ea] at e
  | some p =>
    obtain ⟨x, h1⟩ := p
    cases eb : mb σd h1 with
    | none => simp [ea, eb] at e
    | some p =>
      obtain ⟨y, h2⟩ := p
      cases eg : g x y h2 with
      | none => simp [ea, eb, eg] at e
      | some z =>
        simp [ea, eb, eg] at e
        obtain ⟨rfl, rfl⟩ := e
        refine ⟨ρ, σd, h, x, h1, rs, rh, ea, fun v H1 ρ1 e1 r1 q1 => ⟨ρ1, σd, h1, y, h2, rs.ext e1, r1, eb, fun w H2 ρ2 e2 r2 q2 => ⟨ρ2, h2, x, y, z, r2, DV.ext e2 x q1, q2, eg, o.ext (e1.trans e2)⟩⟩⟩
theorem tUn_imp {K : Kw} {ma : Sl → AH → Option (D × AH)} {g : D → AH → Option D} (σ : L2.St) (H : Hp) (Q : VK)
    (q : tD K (fun σ h => (ma σ h).bind fun (x, h1) => (g x h1).bind fun z => some (z, h1)) σ H Q) : tUn (rU1 K g) (tD K ma) σ H Q := by
  obtain ⟨ρ, σd, h, d, h', rs, rh, e, o⟩ := q
  cases ea : ma σd h with
  | none => simp [ea] at e
  | some p =>
    obtain ⟨x, h1⟩ := p
    cases eg : g x h1 with
    | none => simp [ea, eg] at e
    | some z =>
      simp [ea, eg] at e
      obtain ⟨rfl, rfl⟩ := e
      exact ⟨ρ, σd, h, x, h1, rs, rh, ea, fun v H1 ρ1 e1 r1 q1 => ⟨ρ1, h1, x, z, r1, q1, eg, o.ext e1⟩⟩

section
variable {K : Kw} {ρ : Rho} {H : Hp} {h : AH} {d : D} {v : V}
theorem DV.i {i : Int} (q : DV K ρ H (.int i) v) : v = .int i := by simpa only [DV] using q
theorem DV.s {i : String} (q : DV K ρ H (.str i) v) : v = .str (Str.ofString i) := by simpa only [DV] using q
theorem DV.b {i : Bool} (q : DV K ρ H (.bl i) v) : v = .bl i := by simpa only [DV] using q
theorem DV.n (q : DV K ρ H .non v) : v = .non := by simpa only [DV] using q
theorem DV.t {ds : List D} (q : DV K ρ H (.tup ds) v) : ∃ a vs, v = .ref a ∧ QT K ρ H a vs ∧ DVs K ρ H ds vs := by simpa only [DV] using q
theorem DV.l {ds : List D} (q : DV K ρ H (.lst ds) v) : ∃ a vs, v = .ref a ∧ QL ρ H a vs ∧ DVs K ρ H ds vs := by simpa only [DV] using q
theorem DV.o {ds : List D} (q : DV K ρ H (.rol ds) v) : ∃ a vs, v = .ref a ∧ QR K ρ H a vs ∧ DVs K ρ H ds vs := by simpa only [DV] using q
theorem DV.r {n : Nat} (q : DV K ρ H (.ref n) v) : ∃ a, v = .ref a ∧ ρ.r[n]? = some a := by simpa only [DV] using q
theorem DV.int' (i : Int) : DV K ρ H (.int i) (.int i) := by simp only [DV]
theorem DV.bl' (i : Bool) : DV K ρ H (.bl i) (.bl i) := by simp only [DV]
theorem DV.str' (i : String) : DV K ρ H (.str i) (.str (Str.ofString i)) := by simp only [DV]
theorem DV.non' : DV K ρ H .non .non := by simp only [DV]

/-- a sequence's items stand in the heap -/
theorem items_sq {ds : List D} (r : RepH K ρ H h) (q : DV K ρ H d v) (e : items d h = some ds) : ∃ a vs, v = .ref a ∧ (SqL K H a vs ∨ SqT K H a vs) ∧ DVs K ρ H ds vs := by
  cases d with
  | tup xs =>
    simp only [items, Option.some.injEq] at e; subst e
    obtain ⟨a, vs, rfl, z, y⟩ := q.t
    exact ⟨a, vs, rfl, .inr z.sq, y⟩
  | lst xs =>
    simp only [items, Option.some.injEq] at e; subst e
    obtain ⟨a, vs, rfl, z, y⟩ := q.l
    exact ⟨a, vs, rfl, .inl z.sq, y⟩
  | rol xs =>
    simp only [items, Option.some.injEq] at e; subst e
    obtain ⟨a, vs, rfl, z, y⟩ := q.o
    exact ⟨a, vs, rfl, .inl z.sq, y⟩
  | ref n =>
    simp only [items] at e
    obtain ⟨a, rfl, z⟩ := q.r
    obtain ⟨o, e1, ok⟩ := r.at' z
    rw [e1] at e
    cases o with
    | dct kvs => simp at e
    | ids ks => simp at e
    | lst xs =>
      simp only [Option.some.injEq] at e; subst e
      obtain ⟨vs, e2, y⟩ := ok
      exact ⟨a, vs, rfl, .inl (.of e2), y⟩
  | _ => simp [items] at e
theorem litems_sq {ds : List D} (r : RepH K ρ H h) (q : DV K ρ H d v) (e : litems d h = some ds) : ∃ a vs, v = .ref a ∧ SqL K H a vs ∧ DVs K ρ H ds vs := by
  cases d with
  | lst xs =>
    simp only [litems, Option.some.injEq] at e; subst e
    obtain ⟨a, vs, rfl, z, y⟩ := q.l
    exact ⟨a, vs, rfl, z.sq, y⟩
  | rol xs =>
    simp only [litems, Option.some.injEq] at e; subst e
    obtain ⟨a, vs, rfl, z, y⟩ := q.o
    exact ⟨a, vs, rfl, z.sq, y⟩
  | ref n =>
    simp only [litems] at e
    obtain ⟨a, rfl, z⟩ := q.r
    obtain ⟨o, e1, ok⟩ := r.at' z
    rw [e1] at e
    cases o with
    | dct kvs => simp at e
    | ids ks => simp at e
    | lst xs =>
      simp only [Option.some.injEq] at e; subst e
      obtain ⟨vs, e2, y⟩ := ok
      exact ⟨a, vs, rfl, .of e2, y⟩
  | _ => simp [litems] at e
theorem mitems_sq {ds : List D} (r : RepH K ρ H h) (q : DV K ρ H d v) (e : mitems d h = some ds) : ∃ a vs, v = .ref a ∧ H a = some (.lst vs) ∧ DVs K ρ H ds vs := by
  cases d with
  | lst xs =>
    simp only [mitems, Option.some.injEq] at e; subst e
    obtain ⟨a, vs, rfl, z, y⟩ := q.l
    exact ⟨a, vs, rfl, z.1, y⟩
  | ref n =>
    simp only [mitems] at e
    obtain ⟨a, rfl, z⟩ := q.r
    obtain ⟨o, e1, ok⟩ := r.at' z
    rw [e1] at e
    cases o with
    | dct kvs => simp at e
    | ids ks => simp at e
    | lst xs =>
      simp only [Option.some.injEq] at e; subst e
      obtain ⟨vs, e2, y⟩ := ok
      exact ⟨a, vs, rfl, e2, y⟩
  | _ => simp [mitems] at e
theorem flat_V (q : DV K ρ H d v) (f : flat d = true) : flatV v = true := by
  cases d with
  | non => rw [q.n]; rfl
  | bl b => rw [q.b]; rfl
  | int b => rw [q.i]; rfl
  | str b => rw [q.s]; rfl
  | _ => simp [flat] at f
theorem flats_V : ∀ {ds : List D} {vs : List V}, DVs K ρ H ds vs → ds.all flat = true → vs.all flatV = true
  | [], _, q, _ => by simp only [DVs] at q; subst q; rfl
  | d :: ds, _, q, f => by
    simp only [DVs] at q
    obtain ⟨v, r, rfl, q1, q2⟩ := q
    rw [List.all_cons, Bool.and_eq_true] at f
    rw [List.all_cons, flat_V q1 f.1, flats_V q2 f.2]; rfl
end
theorem ofString_inj {a b : String} (e : Str.ofString a = Str.ofString b) : a = b := by
  have h1 : ∀ s : String, Str.ofString s = ⟨(s.toList.map Char.toNat).toArray⟩ := fun s => by
    unfold Str.ofString
    rw [cpsOfBytes_string]
  rw [h1, h1] at e
  injection e with e
  have e2 : a.toList.map Char.toNat = b.toList.map Char.toNat := by simpa using congrArg Array.toList e
  have inj : ∀ l m : List Char, l.map Char.toNat = m.map Char.toNat → l = m := by
    intro l
    induction l with
    | nil => intro m h; cases m with
      | nil => rfl
      | cons _ _ => simp at h
    | cons c l ih => intro m h; cases m with
      | nil => simp at h
      | cons c' m =>
        simp only [List.map_cons, List.cons.injEq] at h
        have : c = c' := by
          have := h.1
          exact Char.toNat_inj.mp this
        rw [this, ih m h.2]
  exact String.toList_inj.mp (inj _ _ e2)
theorem beq_ofString (a b : String) : (Str.ofString a == Str.ofString b) = (a == b) := by
  rw [Bool.eq_iff_iff]
  simp only [beq_iff_eq]
  exact ⟨ofString_inj, fun e => by rw [e]⟩
section
variable {K : Kw} {ρ : Rho} {H : Hp} {h : AH}
theorem beqD_V {a b : D} {x y : V} (qa : DV K ρ H a x) (qb : DV K ρ H b y) (fa : flat a = true) (fb : flat b = true) : eqV x y = beqD a b := by
  cases a with
  | non =>
    rw [qa.n]
    cases b with
    | non => rw [qb.n]; rfl
    | bl b => rw [qb.b]; rfl
    | int b => rw [qb.i]; rfl
    | str b => rw [qb.s]; rfl
    | _ => simp [flat] at fb
  | bl a =>
    rw [qa.b]
    cases b with
    | non => rw [qb.n]; rfl
    | bl b => rw [qb.b]; rfl
    | int b => rw [qb.i]; rfl
    | str b => rw [qb.s]; rfl
    | _ => simp [flat] at fb
  | int a =>
    rw [qa.i]
    cases b with
    | non => rw [qb.n]; rfl
    | bl b => rw [qb.b]; rfl
    | int b => rw [qb.i]; rfl
    | str b => rw [qb.s]; rfl
    | _ => simp [flat] at fb
  | str a =>
    rw [qa.s]
    cases b with
    | non => rw [qb.n]; rfl
    | bl b => rw [qb.b]; rfl
    | int b => rw [qb.i]; rfl
    | str b => rw [qb.s]; exact beq_ofString a b
    | _ => simp [flat] at fb
  | _ => simp [flat] at fa
theorem inV_beqD {a : D} {x : V} (qa : DV K ρ H a x) (fa : flat a = true) : ∀ {ds : List D} {vs : List V}, DVs K ρ H ds vs → ds.all flat = true → inV x vs = ds.any fun y => beqD y a
  | [], _, q, _ => by simp only [DVs] at q; subst q; rfl
  | d :: ds, _, q, f => by
    simp only [DVs] at q
    obtain ⟨v, r, rfl, q1, q2⟩ := q
    rw [List.all_cons, Bool.and_eq_true] at f
    have ih := inV_beqD qa fa q2 f.2
    unfold inV at ih ⊢
    rw [List.any_cons, List.any_cons, beqD_V q1 qa f.1 fa, ih]
end
end PyD

/-! PyE5: keys of dicts: tuples of scalars and such tuples. -/
namespace PyD
open PySem PySem.Spec PyProof.Rows L2
section
variable {X : Cx} {pins : List (Addr × Obj)} {σ : L2.St} {H : Hp} {s : Shared} {ρ : Rho}
mutual
theorem nk_is (I : Inv X pins σ H s) : ∀ (d : D) {v : V} {u : Value}, keyOk d = true → DV X.kw ρ H d v → RelV v u → NestedIs s.heap (nk d) u
  | .non, _, _, _, q, r => by cases q.n; cases r; exact .none
  | .bl b, _, _, _, q, r => by cases q.b; cases r; exact .bool rfl
  | .int i, _, _, _, q, r => by cases q.i; obtain ⟨t, rfl⟩ := r; exact .int i t
  | .str x, _, _, _, q, r => by cases q.s; obtain ⟨t, rfl⟩ := r; exact .text _ t
  | .tup ds, _, _, c, q, r => by
    obtain ⟨a, vs, rfl, z, y⟩ := q.t
    cases r
    obtain ⟨its, rv, ⟨o, ho, hc, n, hd⟩, _⟩ := I.tuple (z.sq : SqT X.K H a vs)
    exact .tup ho hc hd (by simpa using nks_all I ds c y rv)
  | .lst _, _, _, c, _, _ => by simp [keyOk] at c
  | .rol _, _, _, c, _, _ => by simp [keyOk] at c
  | .ref _, _, _, c, _, _ => by simp [keyOk] at c
theorem nks_all (I : Inv X pins σ H s) : ∀ (ds : List D) {vs : List V} {us : List Value}, keyOks ds = true → DVs X.kw ρ H ds vs → Vals vs us → NestedAll s.heap (nks ds) us
  | [], _, _, _, q, r => by simp only [DVs] at q; subst q; cases r; exact .nil
  | d :: ds, _, _, c, q, r => by
    simp only [keyOks, Bool.and_eq_true] at c
    simp only [DVs] at q
    obtain ⟨v, w, rfl, q1, q2⟩ := q
    cases r with
    | cons r1 r2 => exact .cons (nk_is I d c.1 q1 r1) (nks_all I ds c.2 q2 r2)
end
end
mutual
theorem nk_dep : ∀ d : D, keyOk d = true → (nk d).depth = depD d
  | .non, _ => rfl
  | .bl _, _ => rfl
  | .int _, _ => rfl
  | .str _, _ => rfl
  | .tup ds, c => by simp only [nk, NestedKey.depth, depD, nks_dep ds c]
  | .lst _, c => by simp [keyOk] at c
  | .rol _, c => by simp [keyOk] at c
  | .ref _, c => by simp [keyOk] at c
theorem nks_dep : ∀ ds : List D, keyOks ds = true → NestedKey.depthAll (nks ds) = depDs ds
  | [], _ => rfl
  | d :: ds, c => by
    simp only [keyOks, Bool.and_eq_true] at c
    simp only [nks, NestedKey.depthAll, depDs, nk_dep d c.1, nks_dep ds c.2]
end
theorem str_dec (a b : String) : decide (Str.ofString a = Str.ofString b) = (a == b) := by
  have := beq_ofString a b
  by_cases e : a = b
  · subst e; simp
  · have h2 : Str.ofString a ≠ Str.ofString b := fun z => by
      rw [z] at this
      simp [e] at this
    rw [decide_eq_false h2, beq_eq_false_iff_ne.mpr e]
mutual
theorem nk_beq : ∀ (a b : D), keyOk a = true → keyOk b = true → NestedKey.beq (nk a) (nk b) = eqD a b
  | .non, b, _, hb => by cases b <;> first | rfl | simp [keyOk] at hb
  | .bl x, b, _, hb => by
    cases b with
    | bl y => cases x <;> cases y <;> rfl
    | int y => simp only [nk, NestedKey.beq, eqD, beqD]; rfl
    | lst _ => simp [keyOk] at hb
    | rol _ => simp [keyOk] at hb
    | ref _ => simp [keyOk] at hb
    | _ => rfl
  | .int x, b, _, hb => by
    cases b with
    | bl y => simp only [nk, NestedKey.beq, eqD, beqD]; rfl
    | int y => simp only [nk, NestedKey.beq, eqD, beqD]; rfl
    | lst _ => simp [keyOk] at hb
    | rol _ => simp [keyOk] at hb
    | ref _ => simp [keyOk] at hb
    | _ => rfl
  | .str x, b, _, hb => by
    cases b with
    | str y => simp only [nk, NestedKey.beq, eqD, beqD]; exact str_dec x y
    | lst _ => simp [keyOk] at hb
    | rol _ => simp [keyOk] at hb
    | ref _ => simp [keyOk] at hb
    | _ => rfl
  | .tup xs, b, ha, hb => by
    cases b with
    | tup ys => simp only [nk, NestedKey.beq, eqD]; exact nks_beq xs ys ha hb
    | lst _ => simp [keyOk] at hb
    | rol _ => simp [keyOk] at hb
    | ref _ => simp [keyOk] at hb
    | _ => rfl
  | .lst _, _, ha, _ => by simp [keyOk] at ha
  | .rol _, _, ha, _ => by simp [keyOk] at ha
  | .ref _, _, ha, _ => by simp [keyOk] at ha
theorem nks_beq : ∀ (a b : List D), keyOks a = true → keyOks b = true → NestedKey.beqAll (nks a) (nks b) = eqDs a b
  | [], [], _, _ => rfl
  | [], _ :: _, _, _ => rfl
  | _ :: _, [], _, _ => rfl
  | a :: as, b :: bs, ha, hb => by
    simp only [keyOks, Bool.and_eq_true] at ha hb
    simp only [nks, NestedKey.beqAll, eqDs, nk_beq a b ha.1 hb.1, nks_beq as bs ha.2 hb.2]
end
theorem nk_eq {a b : D} (ha : keyOk a = true) (hb : keyOk b = true) : decide (nk a = nk b) = eqD a b := by
  rw [NestedKey.decide_eq, nk_beq a b ha hb]
end PyD

/-! PyD1c: calls: what is closed moves between worlds; what a def gives back is frozen. -/
namespace PyD
open PySem PySem.Spec PyProof.Rows L2
section
variable {K : Kw} {ρ ρ0 : Rho} {H : Hp}
theorem QT.sub (hs : ∀ a, a ∈ ρ0 → a ∈ ρ) {a : Addr} {vs : List V} (q : QT K ρ H a vs) : QT K ρ0 H a vs := q.elim (fun q => .inl ⟨q.1, fun m => q.2 (hs a m)⟩) .inr
theorem QL.sub (hs : ∀ a, a ∈ ρ0 → a ∈ ρ) {a : Addr} {vs : List V} (q : QL ρ H a vs) : QL ρ0 H a vs := ⟨q.1, fun m => q.2 (hs a m)⟩
theorem QR.sub (hs : ∀ a, a ∈ ρ0 → a ∈ ρ) {a : Addr} {vs : List V} (q : QR K ρ H a vs) : QR K ρ0 H a vs := q.elim (fun q => .inl ⟨q.1, fun m => q.2 (hs a m)⟩) .inr
mutual
theorem DV.moved (hs : ∀ a, a ∈ ρ0 → a ∈ ρ) : ∀ (d : D) {v : V}, closed d = true → DV K ρ H d v → DV K ρ0 H d v
  | .non, _, _, h => h
  | .bl _, _, _, h => h
  | .int _, _, _, h => h
  | .str _, _, _, h => h
  | .tup ds, _, c, h => by
    simp only [DV] at h ⊢
    obtain ⟨a, vs, e1, q, r⟩ := h
    exact ⟨a, vs, e1, q.sub hs, DVs.moved hs ds c r⟩
  | .lst ds, _, c, h => by
    simp only [DV] at h ⊢
    obtain ⟨a, vs, e1, q, r⟩ := h
    exact ⟨a, vs, e1, q.sub hs, DVs.moved hs ds c r⟩
  | .rol ds, _, c, h => by
    simp only [DV] at h ⊢
    obtain ⟨a, vs, e1, q, r⟩ := h
    exact ⟨a, vs, e1, q.sub hs, DVs.moved hs ds c r⟩
  | .ref k, _, c, _ => by simp [closed] at c
theorem DVs.moved (hs : ∀ a, a ∈ ρ0 → a ∈ ρ) : ∀ (ds : List D) {vs : List V}, closeds ds = true → DVs K ρ H ds vs → DVs K ρ0 H ds vs
  | [], _, _, h => h
  | d :: ds, _, c, h => by
    simp only [closeds, Bool.and_eq_true] at c
    simp only [DVs] at h ⊢
    obtain ⟨v, r, e1, q, z⟩ := h
    exact ⟨v, r, e1, DV.moved hs d c.1 q, DVs.moved hs ds c.2 z⟩
end
mutual
theorem DV.mapR {g : Nat → Option D} (hs : ∀ a, a ∈ ρ0 → a ∈ ρ) (hg : ∀ k d' a, g k = some d' → ρ.r[k]? = some a → DV K ρ0 H d' (.ref a)) : ∀ (d : D) {d' : D} {v : V}, PyD.mapR g d = some d' → DV K ρ H d v → DV K ρ0 H d' v
  | .non, _, _, c, h => by simp only [PyD.mapR, Option.some.injEq] at c; subst c; exact h
  | .bl _, _, _, c, h => by simp only [PyD.mapR, Option.some.injEq] at c; subst c; exact h
  | .int _, _, _, c, h => by simp only [PyD.mapR, Option.some.injEq] at c; subst c; exact h
  | .str _, _, _, c, h => by simp only [PyD.mapR, Option.some.injEq] at c; subst c; exact h
  | .tup ds, _, _, c, h => by
    simp only [PyD.mapR, Option.map_eq_some_iff] at c
    obtain ⟨es, c, rfl⟩ := c
    simp only [DV] at h ⊢
    obtain ⟨a, vs, e1, q, r⟩ := h
    exact ⟨a, vs, e1, q.sub hs, DVs.mapR hs hg ds c r⟩
  | .lst ds, _, _, c, h => by
    simp only [PyD.mapR, Option.map_eq_some_iff] at c
    obtain ⟨es, c, rfl⟩ := c
    simp only [DV] at h ⊢
    obtain ⟨a, vs, e1, q, r⟩ := h
    exact ⟨a, vs, e1, q.sub hs, DVs.mapR hs hg ds c r⟩
  | .rol ds, _, _, c, h => by
    simp only [PyD.mapR, Option.map_eq_some_iff] at c
    obtain ⟨es, c, rfl⟩ := c
    simp only [DV] at h ⊢
    obtain ⟨a, vs, e1, q, r⟩ := h
    exact ⟨a, vs, e1, q.sub hs, DVs.mapR hs hg ds c r⟩
  | .ref k, _, _, c, h => by
    simp only [PyD.mapR] at c
    simp only [DV] at h
    obtain ⟨a, rfl, e⟩ := h
    exact hg k _ a c e
theorem DVs.mapR {g : Nat → Option D} (hs : ∀ a, a ∈ ρ0 → a ∈ ρ) (hg : ∀ k d' a, g k = some d' → ρ.r[k]? = some a → DV K ρ0 H d' (.ref a)) : ∀ (ds : List D) {ds' : List D} {vs : List V}, mapRs g ds = some ds' → DVs K ρ H ds vs → DVs K ρ0 H ds' vs
  | [], _, _, c, h => by simp only [mapRs, Option.some.injEq] at c; subst c; exact h
  | d :: ds, _, _, c, h => by
    simp only [mapRs, Option.bind_eq_some_iff, Option.map_eq_some_iff] at c
    obtain ⟨x, c1, xs, c2, rfl⟩ := c
    simp only [DVs] at h ⊢
    obtain ⟨v, r, e1, q, z⟩ := h
    exact ⟨v, r, e1, DV.mapR hs hg d c1 q, DVs.mapR hs hg ds c2 z⟩
end
theorem fzR_ok {h : AH} {ok : Nat → Bool} (r : RepH K ρ H h) (hs : ∀ a, a ∈ ρ0 → a ∈ ρ) (hk : ∀ k a, ok k = true → ρ.r[k]? = some a → a ∉ ρ0) : ∀ (n k : Nat) (d' : D) (a : Addr), fzR h ok n k = some d' → ρ.r[k]? = some a → DV K ρ0 H d' (.ref a)
  | 0, _, _, _, c, _ => by simp [fzR] at c
  | n + 1, k, d', a, c, e => by
    simp only [fzR] at c
    split at c
    case isFalse => cases c
    rename_i hok
    obtain ⟨o, e1, q⟩ := r.at' e
    cases o with
    | dct kvs => rw [e1] at c; simp at c
    | ids ks => rw [e1] at c; simp at c
    | lst ds =>
      rw [e1] at c
      simp only [Option.map_eq_some_iff] at c
      obtain ⟨es, c, rfl⟩ := c
      obtain ⟨vs, e2, q⟩ := q
      simp only [DV]
      exact ⟨a, vs, rfl, ⟨e2, hk k a hok e⟩, DVs.mapR hs (fun k d' a => fzR_ok r hs hk n k d' a) ds c q⟩
theorem fin_ok {m : Bool} {h h1 h2 : AH} {d d2 : D} {Q : VK} (r0 : RepH K ρ H h) (e : fin m h.length d h1 = some (d2, h2)) (o : Out K ρ H d2 h2 Q) : Out K ρ H d h1 Q := by
  intro v H' ρ' ex r1 q
  obtain ⟨t, u, rfl, ht, hu⟩ := ex.more
  have hrl : ρ.r.length = h.length := r0.len
  have notr : ∀ a ∈ ρ.r, a ∉ t := fun a m1 m2 => r0.mem (.inl m1) (ht a m2)
  unfold fin at e
  split at e
  case isFalse => cases e
  rename_i hc
  have hcl : ∀ i ds, i < h.length → h1[i]? = some (.lst ds) → closeds ds = true := fun i ds hi hx => by
    have hm : AO.lst ds ∈ h1.take h.length := List.mem_of_getElem? (i := i) (by rw [List.getElem?_take, if_pos hi]; exact hx)
    exact List.all_eq_true.mp hc _ hm
  have hle : h.length ≤ h1.length := by
    have := r1.len
    simp at this
    omega
  -- the world behind: x is what of the new lists stays
  have world : ∀ (x : List Addr), (∀ a ∈ x, a ∈ t) → x.Nodup → ∀ g : List AO, x.length = g.length → (∀ (i : Nat) (a : Addr) (o : AO), x[i]? = some a → g[i]? = some o → AOk K ⟨ρ.r ++ x, u ++ ρ.w⟩ H' a o) →
      (∀ a, a ∈ (⟨ρ.r ++ x, u ++ ρ.w⟩ : Rho) → a ∈ (⟨ρ.r ++ t, u ++ ρ.w⟩ : Rho)) ∧ Ext ρ H ⟨ρ.r ++ x, u ++ ρ.w⟩ H' ∧ RepH K ⟨ρ.r ++ x, u ++ ρ.w⟩ H' (h1.take h.length ++ g) := by
    intro x hx xn g hg ho
    have hs : ∀ a, a ∈ (⟨ρ.r ++ x, u ++ ρ.w⟩ : Rho) → a ∈ (⟨ρ.r ++ t, u ++ ρ.w⟩ : Rho) := fun a m => by
      rcases m with m | m
      · rcases List.mem_append.mp m with m | m
        · exact .inl (List.mem_append_left _ m)
        · exact .inl (List.mem_append_right _ (hx a m))
      · exact .inr m
    refine ⟨hs, ⟨⟨x, u, rfl, fun a m => ht a (hx a m), hu⟩, ex.keep, ex.there⟩, ⟨?_, ?_, ?_, ?_⟩⟩
    · simp [hrl, hg]; omega
    · show (ρ.r ++ x).Nodup
      rw [List.nodup_append]
      exact ⟨r0.nd, xn, fun a m1 b m2 z => notr a m1 (hx a (z ▸ m2))⟩
    · intro a m
      refine ⟨fun z => (r1.hid a m).1 ?_, (r1.hid a m).2⟩
      rcases List.mem_append.mp z with z | z
      · exact List.mem_append_left _ z
      · exact List.mem_append_right _ (hx a z)
    · intro i a o e1 e2
      have e1 : (ρ.r ++ x)[i]? = some a := e1
      by_cases hi : i < h.length
      · rw [List.getElem?_append_left (by omega)] at e1
        rw [List.getElem?_append_left (by simp; omega), List.getElem?_take, if_pos hi] at e2
        have q1 := r1.obj i a o (by show (ρ.r ++ t)[i]? = _; rw [List.getElem?_append_left (by omega)]; exact e1) e2
        cases o with
        | dct kvs => exact absurd (List.all_eq_true.mp hc _ (List.mem_of_getElem? (i := i) (by rw [List.getElem?_take, if_pos hi]; exact e2))) (by simp [closedO])
        | ids ks => exact absurd (List.all_eq_true.mp hc _ (List.mem_of_getElem? (i := i) (by rw [List.getElem?_take, if_pos hi]; exact e2))) (by simp [closedO])
        | lst ds =>
          obtain ⟨vs, e3, y⟩ := q1
          exact ⟨vs, e3, DVs.moved hs ds (hcl i ds hi e2) y⟩
      · rw [List.getElem?_append_right (by omega)] at e1
        rw [List.getElem?_append_right (by simp; omega)] at e2
        have : (h1.take h.length).length = ρ.r.length := by simp; omega
        rw [this] at e2
        exact ho _ a o e1 e2
  split at e
  · cases d with
    | ref k =>
      simp only at e
      split at e
      case isFalse => cases e
      rename_i hk
      simp only [DV] at q
      obtain ⟨a, rfl, ea⟩ := q
      obtain ⟨ob, eb, qb⟩ := r1.at' ea
      cases ob with
      | dct kvs => rw [eb] at e; simp at e
      | ids ks => rw [eb] at e; simp at e
      | lst ds =>
        rw [eb] at e
        simp only [Option.map_eq_some_iff, Prod.mk.injEq] at e
        obtain ⟨es, c, rfl, rfl⟩ := e
        have ea : (ρ.r ++ t)[k]? = some a := ea
        have hat : a ∈ t := by
          rw [List.getElem?_append_right (by omega)] at ea
          exact List.mem_of_getElem? ea
        have hs : ∀ b, b ∈ (⟨ρ.r ++ [a], u ++ ρ.w⟩ : Rho) → b ∈ (⟨ρ.r ++ t, u ++ ρ.w⟩ : Rho) := fun b m => by
          rcases m with m | m
          · rcases List.mem_append.mp m with m | m
            · exact .inl (List.mem_append_left _ m)
            · cases List.mem_singleton.mp m; exact .inl (List.mem_append_right _ hat)
          · exact .inr m
        obtain ⟨vs, e3, y⟩ := qb
        have y' : DVs K ⟨ρ.r ++ [a], u ++ ρ.w⟩ H' es vs := DVs.mapR hs (fzR_ok r1 hs (fun j b hj eb' => by
          simp only [Bool.and_eq_true, decide_eq_true_eq] at hj
          have eb' : (ρ.r ++ t)[j]? = some b := eb'
          have hbt : b ∈ t := by
            rw [List.getElem?_append_right (by omega)] at eb'
            exact List.mem_of_getElem? eb'
          have nba : b ≠ a := fun z => by
            subst z
            apply hj.2
            obtain ⟨h1', e1'⟩ := List.getElem?_eq_some_iff.mp eb'
            obtain ⟨h2', e2'⟩ := List.getElem?_eq_some_iff.mp ea
            exact (List.getElem_inj r1.nd).mp (e1'.trans e2'.symm)
          intro m
          rcases m with m | m
          · rcases List.mem_append.mp m with m | m
            · exact notr b m hbt
            · exact nba (List.mem_singleton.mp m)
          · exact (r1.hid b m).1 (List.mem_append_right _ hbt)) 6) ds c y
        obtain ⟨_, ex', r'⟩ := world [a] (fun b m => by cases List.mem_singleton.mp m; exact hat) (by simp) [.lst es] rfl (fun i b o e1 e2 => by
          cases i with
          | zero => simp at e1 e2; subst e1; subst e2; exact ⟨vs, e3, y'⟩
          | succ i => simp at e1)
        refine o _ H' _ ex' r' ?_
        simp only [DV]
        exact ⟨a, rfl, by simp [hrl]⟩
    | _ => simp at e
  · simp only [Option.map_eq_some_iff, Prod.mk.injEq] at e
    obtain ⟨d3, c, rfl, rfl⟩ := e
    obtain ⟨hs, ex', r'⟩ := world [] (fun b m => by cases m) (by simp) [] rfl (fun i b o e1 e2 => by simp at e1)
    simp only [List.append_nil] at hs ex' r'
    refine o _ H' _ ex' r' (DV.mapR hs (fzR_ok r1 hs (fun j b hj eb' => ?_) 6) d c q)
    simp only [decide_eq_true_eq] at hj
    have eb' : (ρ.r ++ t)[j]? = some b := eb'
    have hbt : b ∈ t := by
      rw [List.getElem?_append_right (by omega)] at eb'
      exact List.mem_of_getElem? eb'
    intro m
    rcases m with m | m
    · exact notr b m hbt
    · exact (r1.hid b m).1 (List.mem_append_right _ hbt)
theorem callC_ok {φ : Fun} {h h1 : AH} {ds : List D} {vs : List V} {d : D} {Q : VK} (r0 : RepH K ρ H h) (q0 : DVs K ρ H ds vs) (e : callC φ ds h = some (d, h1)) (o : Out K ρ H d h1 Q) :
    ∃ ρ h ds d h', RepH K ρ H h ∧ DVs K ρ H ds vs ∧ φ ds h = some (d, h') ∧ Out K ρ H d h' Q := by
  have hrl : ρ.r.length = h.length := r0.len
  have closedCase : ∀ ds, DVs K ρ H ds vs → (if closeds ds then (φ ds []).bind fun (d, h') => (match h' with
      | [] => if closed d then some (d, h) else none
      | [.lst es] => (match d with
          | .ref 0 => if closeds es then some (.ref h.length, h ++ [.lst es]) else none
          | _ => none)
      | _ => none)
    else none) = some (d, h1) → ∃ ρ h ds d h', RepH K ρ H h ∧ DVs K ρ H ds vs ∧ φ ds h = some (d, h') ∧ Out K ρ H d h' Q := by
    intro ds q0 e
    split at e
    case isFalse => cases e
    rename_i hc
    cases ef : φ ds [] with
    | none => simp [ef] at e
    | some p =>
      obtain ⟨d0, h0⟩ := p
      simp only [ef, Option.bind_some] at e
      have hsub : ∀ a, a ∈ (⟨[], ρ.r ++ ρ.w⟩ : Rho) → a ∈ ρ := fun a m => by
        rcases m with m | m
        · cases m
        · exact (List.mem_append.mp m).elim .inl .inr
      refine ⟨⟨[], ρ.r ++ ρ.w⟩, [], ds, d0, h0, ⟨rfl, by simp, fun a m => ⟨by simp, r0.mem ((List.mem_append.mp m).elim .inl .inr)⟩, fun n a o z => by simp at z⟩, DVs.moved hsub ds hc q0, ef, ?_⟩
      intro v H' ρ' ex r1 q
      obtain ⟨t, u, rfl, ht, hu⟩ := ex.more
      simp only [List.nil_append] at ex r1 q
      have hidr : ∀ a ∈ u ++ ρ.w, a ∉ ρ.r ∧ H' a ≠ none := fun a m => by
        rcases List.mem_append.mp m with m | m
        · exact ⟨fun z => r0.mem (.inl z) (hu a m), (r1.hid a (List.mem_append_left _ m)).2⟩
        · exact ⟨(r0.hid a m).1, (r1.hid a (List.mem_append_right _ (List.mem_append_right _ m))).2⟩
      have same : ∀ a ∈ ρ.r, H' a = H a := fun a m => by
        cases z : H a with
        | none => exact absurd z (r0.mem (.inl m))
        | some w => exact ex.keep a w z (by simp)
      have mk : ∀ (x : List Addr) (g : List AO), (∀ a ∈ x, H a = none) → x.Nodup → x.length = g.length → (∀ a ∈ x, a ∈ t) → (∀ (i : Nat) (a : Addr) (o : AO), x[i]? = some a → g[i]? = some o → AOk K ⟨ρ.r ++ x, u ++ ρ.w⟩ H' a o) →
          Ext ρ H ⟨ρ.r ++ x, u ++ ρ.w⟩ H' ∧ RepH K ⟨ρ.r ++ x, u ++ ρ.w⟩ H' (h ++ g) := by
        intro x g hx xn xl xt ho
        have e' : Ext ρ H ⟨ρ.r ++ x, u ++ ρ.w⟩ H' := ⟨⟨x, u, rfl, hx, hu⟩, fun a w z _ => ex.keep a w z (by simp), ex.there⟩
        refine ⟨e', ⟨by simp [hrl, xl], ?_, ?_, ?_⟩⟩
        · show (ρ.r ++ x).Nodup
          rw [List.nodup_append]
          exact ⟨r0.nd, xn, fun a m1 b m2 z => r0.mem (.inl m1) (hx a (z ▸ m2))⟩
        · intro a m
          refine ⟨fun z => ?_, (hidr a m).2⟩
          rcases List.mem_append.mp z with z | z
          · exact (hidr a m).1 z
          · refine (r1.hid a ?_).1 (xt a z)
            rcases List.mem_append.mp m with m | m
            · exact List.mem_append_left _ m
            · exact List.mem_append_right _ (List.mem_append_right _ m)
        · intro i a o e1 e2
          have e1 : (ρ.r ++ x)[i]? = some a := e1
          by_cases hi : i < h.length
          · rw [List.getElem?_append_left (by omega)] at e1
            rw [List.getElem?_append_left hi] at e2
            exact (r0.obj i a o e1 e2).ext e' (same a (List.mem_of_getElem? e1))
          · rw [List.getElem?_append_right (by omega)] at e1
            rw [List.getElem?_append_right (by omega), ← hrl] at e2
            exact ho _ a o e1 e2
      have sub2 : ∀ x, (∀ a ∈ x, a ∈ t) → ∀ a, a ∈ (⟨ρ.r ++ x, u ++ ρ.w⟩ : Rho) → a ∈ (⟨t, u ++ (ρ.r ++ ρ.w)⟩ : Rho) := fun x hx a m => by
        rcases m with m | m
        · rcases List.mem_append.mp m with m | m
          · exact .inr (List.mem_append_right _ (List.mem_append_left _ m))
          · exact .inl (hx a m)
        · rcases List.mem_append.mp m with m | m
          · exact .inr (List.mem_append_left _ m)
          · exact .inr (List.mem_append_right _ (List.mem_append_right _ m))
      match h0, e, r1, ef with
      | [], e, r1, ef =>
        simp only at e
        split at e
        case isFalse => cases e
        rename_i hcd
        simp only [Option.some.injEq, Prod.mk.injEq] at e
        obtain ⟨rfl, rfl⟩ := e
        obtain ⟨e', r'⟩ := mk [] [] (fun a m => by cases m) (by simp) rfl (fun a m => by cases m) (fun i a o z => by simp at z)
        simp only [List.append_nil] at e' r'
        exact o v H' _ e' r' (DV.moved (fun a m => sub2 [] (fun a m => by cases m) a (by simpa using m)) _ hcd q)
      | [.lst es], e, r1, ef =>
        simp only at e
        split at e
        case h_2 => cases e
        split at e
        case isFalse => cases e
        rename_i hcd
        simp only [Option.some.injEq, Prod.mk.injEq] at e
        obtain ⟨rfl, rfl⟩ := e
        simp only [DV] at q
        obtain ⟨a, rfl, ea⟩ := q
        have ta : t = [a] := by
          have := r1.len
          match t, this, ea with
          | [b], _, ea => simp at ea; rw [ea]
        subst ta
        obtain ⟨vs', e3, y⟩ := r1.obj 0 a _ rfl rfl
        obtain ⟨e', r'⟩ := mk [a] [.lst es] ht (by simp) rfl (fun a m => m) (fun i b ob e1 e2 => by
          cases i with
          | zero => simp at e1 e2; subst e1; subst e2; exact ⟨vs', e3, DVs.moved (sub2 [a] fun a m => m) es hcd y⟩
          | succ i => simp at e1)
        refine o _ H' _ e' r' ?_
        simp only [DV]
        exact ⟨a, rfl, by simp [hrl]⟩
      | .lst _ :: _ :: _, e, r1, ef => simp at e
  unfold callC at e
  split at e
  · rename_i r rest
    split at e
    case isFalse => cases e
    rename_i hcr
    split at e
    case h_2 => cases e
    rename_i es eh
    split at e
    case isFalse => cases e
    rename_i hce
    cases ef : φ (.ref 0 :: rest) [.lst es] with
    | none => simp [ef] at e
    | some p =>
      obtain ⟨d0, h0⟩ := p
      simp only [ef, Option.bind_some] at e
      split at e
      case h_2 => cases e
      rename_i es'
      split at e
      case isFalse => cases e
      rename_i hcd
      simp only [Bool.and_eq_true] at hcd
      simp only [Option.some.injEq, Prod.mk.injEq] at e
      obtain ⟨rfl, rfl⟩ := e
      simp only [DVs, DV] at q0
      obtain ⟨_, vr, rfl, ⟨a, rfl, ea⟩, q0⟩ := q0
      have am : a ∈ ρ.r := List.mem_of_getElem? ea
      have hw : ∀ b ∈ ρ.r.filter (fun b => decide (b ≠ a)) ++ ρ.w, b ≠ a ∧ b ∈ ρ := fun b m => by
        rcases List.mem_append.mp m with m | m
        · have := List.mem_filter.mp m
          exact ⟨by simpa using this.2, .inl this.1⟩
        · exact ⟨fun z => (r0.hid b m).1 (z ▸ am), .inr m⟩
      have hsub : ∀ b, b ∈ (⟨[a], ρ.r.filter (fun b => decide (b ≠ a)) ++ ρ.w⟩ : Rho) → b ∈ ρ := fun b m => by
        rcases m with m | m
        · cases List.mem_singleton.mp m; exact .inl am
        · exact (hw b m).2
      obtain ⟨ov, eo, yo⟩ := r0.obj r a _ ea eh
      refine ⟨⟨[a], ρ.r.filter (fun b => decide (b ≠ a)) ++ ρ.w⟩, [.lst es], .ref 0 :: rest, d0, [.lst es'], ⟨rfl, by simp, fun b m => ⟨fun z => (hw b m).1 (List.mem_singleton.mp z), r0.mem (hw b m).2⟩, fun n b ob e1 e2 => ?_⟩, ?_, ef, ?_⟩
      · cases n with
        | zero => simp at e1 e2; subst e1; subst e2; exact ⟨ov, eo, DVs.moved hsub es hce yo⟩
        | succ n => simp at e1
      · exact .cons (by simp only [DV]; exact ⟨a, rfl, rfl⟩) (DVs.moved hsub rest hcr q0)
      · intro v H' ρ' ex r1 q
        obtain ⟨t, u, rfl, ht, hu⟩ := ex.more
        have t0 : t = [] := by
          have := r1.len
          simp at this
          exact this
        subst t0
        simp only [List.append_nil] at ex r1 q
        have hsub2 : ∀ b, b ∈ (⟨ρ.r, u ++ ρ.w⟩ : Rho) → b ∈ (⟨[a], u ++ (ρ.r.filter (fun b => decide (b ≠ a)) ++ ρ.w)⟩ : Rho) := fun b m => by
          rcases m with m | m
          · by_cases z : b = a
            · exact .inl (by rw [z]; simp)
            · exact .inr (List.mem_append_right _ (List.mem_append_left _ (List.mem_filter.mpr ⟨m, by simpa using z⟩)))
          · rcases List.mem_append.mp m with m | m
            · exact .inr (List.mem_append_left _ m)
            · exact .inr (List.mem_append_right _ (List.mem_append_right _ m))
        have e' : Ext ρ H ⟨ρ.r, u ++ ρ.w⟩ H' := ⟨⟨[], u, by simp, ⟨fun b m => (by cases m), hu⟩⟩, fun b w z nb => ex.keep b w z (fun m => nb (by cases List.mem_singleton.mp m; exact am)), ex.there⟩
        refine o v H' _ e' ⟨by simp [hrl], r0.nd, fun b m => ?_, fun i b ob e1 e2 => ?_⟩ (DV.moved hsub2 _ hcd.1 q)
        · rcases List.mem_append.mp m with m | m
          · exact ⟨fun z => r0.mem (.inl z) (hu b m), (r1.hid b (List.mem_append_left _ m)).2⟩
          · exact ⟨(r0.hid b m).1, (r1.hid b (List.mem_append_right _ (List.mem_append_right _ m))).2⟩
        · have e1 : ρ.r[i]? = some b := e1
          by_cases hi : i = r
          · subst hi
            rw [ea] at e1; cases e1
            rw [List.getElem?_set_self (List.getElem?_eq_some_iff.mp eh).1] at e2
            cases e2
            obtain ⟨vs', e3, y⟩ := r1.obj 0 a _ rfl rfl
            exact ⟨vs', e3, DVs.moved hsub2 es' hcd.2 y⟩
          · rw [List.getElem?_set_ne (Ne.symm hi)] at e2
            have nb : b ≠ a := fun z => hi (by
              subst z
              obtain ⟨h1', e1'⟩ := List.getElem?_eq_some_iff.mp e1
              obtain ⟨h2', e2'⟩ := List.getElem?_eq_some_iff.mp ea
              exact (List.getElem_inj r0.nd).mp (e1'.trans e2'.symm))
            refine (r0.obj i b ob e1 e2).ext e' ?_
            cases z : H b with
            | none => exact absurd z (r0.mem (.inl (List.mem_of_getElem? e1)))
            | some w => exact ex.keep b w z (by simpa using nb)
  · exact closedCase _ q0 e
end
end PyD

/-! PyE2: tuple * int, at any small number. -/
namespace PyD
open PySem PySem.Spec PyProof.Rows L2
theorem tuple_mulS (l : Addr) (items : Array Value) (n : Nat) (dd : Option Addr) (sl : Array (Option Value)) (x : Int) (u : Tok) (c0 : (decide (x < -(2 ^ 63)) || decide (x ≥ 2 ^ 63)) = false) (c1 : (items.isEmpty || x == 1) = true) :
    Meets (Builtin.«tuple.__mul__» ⟨[.ref l, .int x u], []⟩) (fun _ R s => s.heap.get? l = some { cls := .type "tuple", dict := dd, data := .seq items n, slots := sl } ∧ R (.ok (.ret (Value.ref l))) s) :=
  .of_wp fun prog w A R s h => by
    obtain ⟨hp, g, d, tk, os⟩ := s
    obtain ⟨hl, h⟩ := h
    have f1 := AutoSeq1.idx_int
    wp_walk using wpAny_loadPart' hl
    repeat (first
      | (refine wpAny_ite_false (decide_eq_false (by rw [c0]; exact Bool.false_ne_true)) ?_; wp_walk using wpAny_loadPart' hl)
      | (refine wpAny_ite_true (decide_eq_true (by rw [c1])) ?_; wp_walk using wpAny_loadPart' hl))
    exact ⟨_, rfl, h⟩
theorem tuple_mulN (l : Addr) (items : Array Value) (n : Nat) (dd : Option Addr) (sl : Array (Option Value)) (x : Int) (u : Tok) (c0 : (decide (x < -(2 ^ 63)) || decide (x ≥ 2 ^ 63)) = false) (c1 : (items.isEmpty || x == 1) = false) (c2 : (decide (x ≤ 0) || items.isEmpty) = true) :
    Meets (Builtin.«tuple.__mul__» ⟨[.ref l, .int x u], []⟩) (fun _ R s => s.heap.get? l = some { cls := .type "tuple", dict := dd, data := .seq items n, slots := sl } ∧
      R (.ok (.ret (Value.ref s.heap.objs.size))) { s with heap := s.heap.push { cls := Value.type "tuple", data := Data.seq #[] }, toks := s.toks }) :=
  .of_wp fun prog w A R s h => by
    obtain ⟨hp, g, d, tk, os⟩ := s
    obtain ⟨hl, h⟩ := h
    have f1 := AutoSeq1.idx_int
    wp_walk using wpAny_loadPart' hl
    repeat (first
      | (refine wpAny_ite_false (decide_eq_false (by rw [c0]; exact Bool.false_ne_true)) ?_; wp_walk using wpAny_loadPart' hl)
      | (refine wpAny_ite_false (decide_eq_false (by rw [c1]; exact Bool.false_ne_true)) ?_; wp_walk using wpAny_loadPart' hl)
      | (refine wpAny_ite_true (decide_eq_true (by rw [c2])) ?_; wp_walk using wpAny_loadPart' hl))
    exact ⟨_, rfl, h⟩
def rRepA (K : PySem.W.Frag) : R2 := fun x y H Q => ∃ l k xs, x = .ref l ∧ y = .int k ∧ SqT K H l xs ∧ -1000 ≤ k ∧ k ≤ 1000 ∧ xs.length ≤ 1000 ∧ ((xs = [] ∨ k = 1) → Q (.ref l) H) ∧ (¬ (xs = [] ∨ k = 1) → ∀ p, H p = none → Q (.ref p) (upd H p (.tup (List.replicate k.toNat xs).flatten)))
theorem op_repA {X : Cx} : OpR X (binaryOp .Mult) (rRepA X.K) := by
  intro pins s σ H x y v u Q I rx ry h
  obtain ⟨l, k, xs, rfl, rfl, hT, h0, h2, hz, q1, q2⟩ := h
  by_cases hbig : xs ≠ [] ∧ 2 ≤ k
  · exact op_repT pins s σ H _ _ v u Q I rx ry ⟨l, k, xs, rfl, rfl, hT, hbig.1, hbig.2, h2, hz, q2 (fun z => z.elim hbig.1 (fun e => by omega))⟩
  cases rx
  obtain ⟨t, rfl⟩ := ry
  obtain ⟨its, r, ⟨⟨cls, dd, data, sl⟩, ho, hc, n, hd⟩, hs⟩ := I.tuple hT
  simp only at hc hd
  subst hc hd
  have hle : its.length = xs.length := r.length.symm
  have c0 : (decide (k < -(2 ^ 63)) || decide (k ≥ 2 ^ 63)) = false := by
    rw [decide_eq_false (by omega), decide_eq_false (by omega)] <;> rfl
  have hxi : xs = [] ↔ its = [] := ⟨fun e => List.eq_nil_of_length_eq_zero (by rw [hle, e]; rfl), fun e => List.eq_nil_of_length_eq_zero (by rw [← hle, e]; rfl)⟩
  have hie : its.toArray.isEmpty = its.isEmpty := by cases its <;> rfl
  by_cases hsame : xs = [] ∨ k = 1
  · have c1 : (its.toArray.isEmpty || k == 1) = true := by
      rw [hie]
      rcases hsame with e | e
      · rw [hxi.mp e]; rfl
      · rw [e]; simp
    refine wpAny_binaryOp_repeat_ref (T := "tuple") (U := "int") (by decide) ⟨_, ho, rfl⟩ (fun s' => typeIs_int s' k t) noFill_tuple_mul F.fills_int_mul F.slot_int_rmul repeat_tuple F.slot_int_index.lookup
      (call_meets F.slot_int_rmul (typeIs_int s k t) F.entry_int_rmul (F.args_int_rmul_2 _ _) (int_rmul_tuple k t l its.toArray n dd sl)
        ⟨ho, rfl, ⟨_, ho, rfl⟩, call_meets F.slot_tuple_mul ⟨_, ho, rfl⟩ F.entry_tuple_mul (F.args_tuple_mul_2 _ _) (tuple_mulS l its.toArray n dd sl k t c0 c1) ⟨ho, ?_⟩⟩)
    exact ⟨.ref l, H, I, rfl, q1 hsame⟩
  · have hk0 : k ≤ 0 := by
      by_cases z : k ≤ 0
      · exact z
      · exact absurd ⟨fun e => hsame (.inl e), by have : k ≠ 1 := fun e => hsame (.inr e); omega⟩ hbig
    have hn : its ≠ [] := fun e => hsame (.inl (hxi.mpr e))
    have hi : its.toArray.isEmpty = false := by
      rw [hie]
      cases its with
      | nil => exact absurd rfl hn
      | cons a b => rfl
    have c1 : (its.toArray.isEmpty || k == 1) = false := by
      rw [hi, Bool.false_or]
      exact beq_eq_false_iff_ne.mpr (by omega)
    have c2 : (decide (k ≤ 0) || its.toArray.isEmpty) = true := by
      rw [decide_eq_true hk0]; rfl
    have hk : k.toNat = 0 := by omega
    refine wpAny_binaryOp_repeat_ref (T := "tuple") (U := "int") (by decide) ⟨_, ho, rfl⟩ (fun s' => typeIs_int s' k t) noFill_tuple_mul F.fills_int_mul F.slot_int_rmul repeat_tuple F.slot_int_index.lookup
      (call_meets F.slot_int_rmul (typeIs_int s k t) F.entry_int_rmul (F.args_int_rmul_2 _ _) (int_rmul_tuple k t l its.toArray n dd sl)
        ⟨ho, rfl, ⟨_, ho, rfl⟩, call_meets F.slot_tuple_mul ⟨_, ho, rfl⟩ F.entry_tuple_mul (F.args_tuple_mul_2 _ _) (tuple_mulN l its.toArray n dd sl k t c0 c1 c2) ⟨ho, ?_⟩⟩)
    have q := q2 hsame
    rw [hk] at q
    refine ⟨.ref s.heap.objs.size, _, I.laid (t' := s.toks) (o := .tup []) (fun b ob q => Heap.get?_push_of_some _ q) (Nat.le_refl _) ?_, rfl, q _ (I.hok.fresh (Nat.le_refl _))⟩
    exact ⟨Nat.zero_le _, [], .nil, IsTup.new _ _⟩
end PyD

/-! PyE4: == and != of values, by the layer's data. -/
namespace PyD
open PySem PySem.Spec PyProof.Rows L2
mutual
def pdD : D → PyData
  | .non => .none
  | .bl b => .bool b
  | .int i => .int i
  | .str s => .str (Str.ofString s)
  | .tup ds => .tuple (pdDs ds)
  | .lst ds => .list (pdDs ds)
  | .rol ds => .list (pdDs ds)
  | .ref _ => .none
def pdDs : List D → List PyData
  | [] => []
  | d :: ds => pdD d :: pdDs ds
end
theorem strOk_of (s : String) : PyData.strOk (Str.ofString s) = true := by
  unfold PyData.strOk
  rw [Str.ofString_eq_toList]
  simp only [List.all_toArray, List.all_map, List.all_eq_true]
  intro c _
  have := c.valid
  simp only [Function.comp, decide_eq_true_eq, Char.toNat]
  rcases this with h | h
  · exact Nat.lt_trans h (by decide)
  · exact h.2
mutual
theorem pd_lay : ∀ d : D, PyData.canLay0 (pdD d) = true
  | .non => rfl
  | .bl _ => rfl
  | .int _ => rfl
  | .str s => by simp only [pdD, PyData.canLay0]; exact strOk_of s
  | .tup ds => by simp only [pdD, PyData.canLay0]; exact pds_lay ds
  | .lst ds => by simp only [pdD, PyData.canLay0]; exact pds_lay ds
  | .rol ds => by simp only [pdD, PyData.canLay0]; exact pds_lay ds
  | .ref _ => rfl
theorem pds_lay : ∀ ds : List D, PyData.canLayAll0 (pdDs ds) = true
  | [] => rfl
  | d :: ds => by simp only [pdDs, PyData.canLayAll0, pd_lay d, pds_lay ds]; rfl
end
mutual
theorem pd_dep : ∀ d : D, (pdD d).depth = depD d
  | .non => rfl
  | .bl _ => rfl
  | .int _ => rfl
  | .str s => rfl
  | .tup ds => by simp only [pdD, PyData.depth, depD, pds_dep ds]
  | .lst ds => by simp only [pdD, PyData.depth, depD, pds_dep ds]
  | .rol ds => by simp only [pdD, PyData.depth, depD, pds_dep ds]
  | .ref _ => rfl
theorem pds_dep : ∀ ds : List D, PyData.depthAll (pdDs ds) = depDs ds
  | [] => rfl
  | d :: ds => by simp only [pdDs, PyData.depthAll, depDs, pd_dep d, pds_dep ds]
end
theorem beq_str' (a b : String) : (Str.ofString a == Str.ofString b) = (a == b) := by
  have := beq_ofString a b
  by_cases e : a = b
  · subst e; simp
  · have h2 : Str.ofString a ≠ Str.ofString b := fun z => by
      rw [z] at this
      simp [e] at this
    rw [beq_eq_false_iff_ne.mpr h2, beq_eq_false_iff_ne.mpr e]
mutual
theorem pd_eq : ∀ (a b : D), closed a = true → closed b = true → PyData.eqv (pdD a) (pdD b) = eqD a b
  | .non, b, _, hb => by cases b <;> first | rfl | simp [closed] at hb
  | .bl _, b, _, hb => by cases b <;> first | rfl | simp [closed] at hb
  | .int _, b, _, hb => by cases b <;> first | rfl | simp [closed] at hb
  | .str s, b, _, hb => by
    cases b with
    | str t => simp only [pdD, PyData.eqv, eqD, beqD]; exact beq_str' s t
    | ref n => simp [closed] at hb
    | _ => rfl
  | .tup xs, b, ha, hb => by
    cases b with
    | tup ys => simp only [pdD, PyData.eqv, eqD]; exact pds_eq xs ys ha hb
    | ref n => simp [closed] at hb
    | _ => rfl
  | .lst xs, b, ha, hb => by
    cases b with
    | lst ys => simp only [pdD, PyData.eqv, eqD]; exact pds_eq xs ys ha hb
    | rol ys => simp only [pdD, PyData.eqv, eqD]; exact pds_eq xs ys ha hb
    | ref n => simp [closed] at hb
    | _ => rfl
  | .rol xs, b, ha, hb => by
    cases b with
    | lst ys => simp only [pdD, PyData.eqv, eqD]; exact pds_eq xs ys ha hb
    | rol ys => simp only [pdD, PyData.eqv, eqD]; exact pds_eq xs ys ha hb
    | ref n => simp [closed] at hb
    | _ => rfl
  | .ref _, _, ha, _ => by simp [closed] at ha
theorem pds_eq : ∀ (a b : List D), closeds a = true → closeds b = true → PyData.eqvAll (pdDs a) (pdDs b) = eqDs a b
  | [], [], _, _ => rfl
  | [], _ :: _, _, _ => rfl
  | _ :: _, [], _, _ => rfl
  | a :: as, b :: bs, ha, hb => by
    simp only [closeds, Bool.and_eq_true] at ha hb
    simp only [pdDs, PyData.eqvAll, eqDs, pd_eq a b ha.1 hb.1, pds_eq as bs ha.2 hb.2]
end
section
variable {K : Kw} {ρ : Rho} {H : Hp} {h : AH}
mutual
theorem dp_of : ∀ (d : D) {v : V}, closed d = true → DV K ρ H d v → Dp K H v (pdD d)
  | .non, _, _, q => by cases q.n; exact .non
  | .bl b, _, _, q => by cases q.b; exact .bl b
  | .int i, _, _, q => by cases q.i; exact .int i
  | .str s, _, _, q => by cases q.s; exact .str _
  | .tup ds, _, c, q => by
    obtain ⟨a, vs, rfl, z, y⟩ := q.t
    exact .tup z.sq (dps_of ds c y)
  | .lst ds, _, c, q => by
    obtain ⟨a, vs, rfl, z, y⟩ := q.l
    exact .lst z.sq (dps_of ds c y)
  | .rol ds, _, c, q => by
    obtain ⟨a, vs, rfl, z, y⟩ := q.o
    exact .lst z.sq (dps_of ds c y)
  | .ref _, _, c, _ => by simp [closed] at c
theorem dps_of : ∀ (ds : List D) {vs : List V}, closeds ds = true → DVs K ρ H ds vs → DpAll K H vs (pdDs ds)
  | [], _, _, q => by simp only [DVs] at q; subst q; exact .nil
  | d :: ds, _, c, q => by
    simp only [closeds, Bool.and_eq_true] at c
    simp only [DVs] at q
    obtain ⟨v, r, rfl, q1, q2⟩ := q
    exact .cons (dp_of d c.1 q1) (dps_of ds c.2 q2)
end
theorem dp_rsv {d : D} {v : V} (r : RepH K ρ H h) (c : closed (rsv d h) = true) (q : DV K ρ H d v) : Dp K H v (pdD (rsv d h)) := by
  cases d with
  | ref n =>
    simp only [rsv] at c ⊢
    obtain ⟨a, rfl, e⟩ := q.r
    obtain ⟨o, eo, ok⟩ := r.at' e
    cases o with
    | dct kvs => rw [eo] at c; simp [closed] at c
    | ids ks => rw [eo] at c; simp [closed] at c
    | lst ds =>
      rw [eo] at c ⊢
      obtain ⟨vs, e1, y⟩ := ok
      exact .lst (.inl (.inl e1)) (dps_of ds c y)
  | _ => exact dp_of _ c q
theorem eqO_ok {a b : D} {k : Bool} {x y : V} (r : RepH K ρ H h) (qa : DV K ρ H a x) (qb : DV K ρ H b y) (e : eqO a b h = some k) : ∃ d e, Dp K H x d ∧ Dp K H y e ∧ SeqAt.shaped d = true ∧ SeqAt.shaped e = true ∧ PyData.eqv d e = k := by
  unfold eqO at e
  split at e
  case isFalse => cases e
  rename_i hz
  simp only [Bool.and_eq_true, decide_eq_true_eq] at hz
  cases e
  refine ⟨_, _, dp_rsv r hz.1.1.1 qa, dp_rsv r hz.1.1.2 qb, ?_, ?_, pd_eq _ _ hz.1.1.1 hz.1.1.2⟩
  · unfold SeqAt.shaped
    rw [pd_lay, pd_dep, Bool.true_and, decide_eq_true_eq]; omega
  · unfold SeqAt.shaped
    rw [pd_lay, pd_dep, Bool.true_and, decide_eq_true_eq]; omega
end
theorem op_eqO {X : Cx} (hu : X.A.units + 64 < cLine) : OpR X (compareOp .Eq) (rB X.kw fun x y h => (eqO x y h).map D.bl) := by
  intro pins s σ H x y v u Q I rx ry ⟨ρ, h, a, b, d, rh, qa, qb, e, o⟩
  simp only [Option.map_eq_some_iff] at e
  obtain ⟨k, e, rfl⟩ := e
  obtain ⟨d1, d2, p1, p2, s1, s2, ek⟩ := eqO_ok rh qa qb e
  exact op_eqD hu pins s σ H x y v u Q I rx ry ⟨d1, d2, p1, p2, s1, s2, by rw [ek]; exact o.here rh (DV.bl' _)⟩
theorem op_neO {X : Cx} (hu : X.A.units + 64 < cLine) : OpR X (compareOp .NotEq) (rB X.kw fun x y h => ((eqO x y h).map not).map D.bl) := by
  intro pins s σ H x y v u Q I rx ry ⟨ρ, h, a, b, d, rh, qa, qb, e, o⟩
  simp only [Option.map_eq_some_iff] at e
  obtain ⟨k0, ⟨k, e, rfl⟩, rfl⟩ := e
  obtain ⟨d1, d2, p1, p2, s1, s2, ek⟩ := eqO_ok rh qa qb e
  exact op_neD hu pins s σ H x y v u Q I rx ry ⟨d1, d2, p1, p2, s1, s2, by rw [ek]; exact o.here rh (DV.bl' _)⟩
end PyD

/-! PyD2: operators by data. -/
namespace PyD
open PySem PySem.Spec PyProof.Rows L2
section
variable {K : Kw} {ρ : Rho} {H : Hp} {h : AH}
theorem DVs.nil_iff {ds : List D} {vs : List V} (q : DVs K ρ H ds vs) : vs = [] ↔ ds = [] := by
  cases ds with
  | nil => simp only [DVs] at q; subst q; simp
  | cons d ds =>
    simp only [DVs] at q
    obtain ⟨v, r, rfl, _⟩ := q
    simp
end
section
variable {X : Cx}
theorem op_addD : OpR X (binaryOp .Add) (rB X.kw fun x y _ => binop .add x y) := by
  intro pins s σ H x y v u Q I rx ry ⟨ρ, h, a, b, d, rh, qa, qb, e, o⟩
  cases a with
  | int i =>
    cases b with
    | int j =>
      simp only [binop, Option.some.injEq] at e; subst e
      cases qa.i; cases qb.i
      exact op_add pins s σ H _ _ v u Q I rx ry ⟨i, j, rfl, rfl, o.here rh (DV.int' _)⟩
    | _ => simp [binop] at e
  | str i =>
    cases b with
    | str j =>
      simp only [binop] at e
      split at e
      case isFalse => cases e
      rename_i hz
      simp only [Option.some.injEq] at e; subst e
      cases qa.s; cases qb.s
      have len : ∀ z : String, (Str.ofString z).length = z.length := fun z => by
        show (Str.ofString z).cps.size = z.length
        unfold Str.ofString
        rw [cpsOfBytes_string]
        simp [String.length_toList]
      have app : Str.ofString i ++ Str.ofString j = Str.ofString (i ++ j) := by
        show (⟨(Str.ofString i).cps ++ (Str.ofString j).cps⟩ : Str) = _
        unfold Str.ofString
        rw [cpsOfBytes_string, cpsOfBytes_string, cpsOfBytes_string]
        simp
      exact op_add_str pins s σ H _ _ v u Q I rx ry ⟨_, _, rfl, rfl, by rw [len, len, lim_eq]; exact hz, by rw [app]; exact o.here rh (DV.str' _)⟩
    | _ => simp [binop] at e
  | tup xs =>
    cases b with
    | tup ys =>
      simp only [binop] at e
      split at e
      case isFalse => cases e
      rename_i hz
      simp only [Option.some.injEq] at e; subst e
      obtain ⟨a, vs, rfl, za, ya⟩ := qa.t
      obtain ⟨b, ws, rfl, zb, yb⟩ := qb.t
      by_cases hv : vs = []
      · have hx := ya.nil_iff.mp hv
        subst hx
        cases rx; cases ry
        obtain ⟨its, r1, p1, _⟩ := I.tuple za.sq
        obtain ⟨its2, r2, p2, _⟩ := I.tuple zb.sq
        obtain ⟨⟨cls, dd, data, sl⟩, ho, hc, n, hd⟩ := id p1
        obtain ⟨⟨cls2, dd2, data2, sl2⟩, ho2, hc2, n2, hd2⟩ := id p2
        simp only at hc hd hc2 hd2
        subst hc hd hc2 hd2
        have hi : its = [] := r1.nil_iff.mpr hv
        refine concat_meets ⟨_, ho, rfl⟩ ⟨_, ho2, rfl⟩ PySem.noFill_tuple_add PySem.seq_tuple_add PySem.F.slot_tuple_add PySem.F.entry_tuple_add (PySem.F.args_tuple_add_2 _ _)
          (tuple_addW0 a b its.toArray its2.toArray n n2 dd dd2 sl sl2 (by simp [hi])) ⟨ho, ho2, ?_⟩
        refine ⟨.ref b, H, I, rfl, o.here rh ?_⟩
        simp only [DV, List.nil_append]
        exact ⟨b, ws, rfl, zb, yb⟩
      · refine op_catT pins s σ H _ _ v u Q I rx ry ⟨a, b, vs, ws, rfl, rfl, za.sq, zb.sq, hv, by rw [← ya.length, ← yb.length, lim_eq]; exact hz, fun hw => ?_, fun _ => o.tup rh (ya.append yb)⟩
        have hy := yb.nil_iff.mp hw
        subst hy
        refine o.here rh ?_
        simp only [DV, List.append_nil]
        exact ⟨a, vs, rfl, za, ya⟩
    | _ => simp [binop] at e
  | _ => cases b <;> simp [binop] at e
theorem op_subD : OpR X (binaryOp .Sub) (rB X.kw fun x y _ => binop .sub x y) := by
  intro pins s σ H x y v u Q I rx ry ⟨ρ, h, a, b, d, rh, qa, qb, e, o⟩
  cases a with
  | int i =>
    cases b with
    | int j =>
      simp only [binop, Option.some.injEq] at e; subst e
      cases qa.i; cases qb.i
      exact op_sub pins s σ H _ _ v u Q I rx ry ⟨i, j, rfl, rfl, o.here rh (DV.int' _)⟩
    | _ => simp [binop] at e
  | _ => cases b <;> simp [binop] at e
theorem op_mulD : OpR X (binaryOp .Mult) (rB X.kw fun x y _ => binop .mul x y) := by
  intro pins s σ H x y v u Q I rx ry ⟨ρ, h, a, b, d, rh, qa, qb, e, o⟩
  cases a with
  | int i =>
    cases b with
    | int j =>
      simp only [binop] at e
      split at e
      case isFalse => cases e
      rename_i hz
      simp only [Option.some.injEq] at e; subst e
      cases qa.i; cases qb.i
      exact op_mul pins s σ H _ _ v u Q I rx ry ⟨i, j, rfl, rfl, hz, o.here rh (DV.int' _)⟩
    | _ => simp [binop] at e
  | tup xs =>
    cases b with
    | int k =>
      simp only [binop] at e
      split at e
      case isFalse => cases e
      rename_i hz
      simp only [Option.some.injEq] at e; subst e
      obtain ⟨a, vs, rfl, za, ya⟩ := qa.t
      cases qb.i
      refine op_repA pins s σ H _ _ v u Q I rx ry ⟨a, k, vs, rfl, rfl, za.sq, hz.1, hz.2.1, by rw [← ya.length]; exact hz.2.2, fun hs => o.here rh ?_, fun hs => o.tup rh (ya.rep _)⟩
      have er : (List.replicate k.toNat xs).flatten = xs := by
        rcases hs with e | e
        · rw [ya.nil_iff.mp e]; simp
        · subst e; simp
      rw [er]
      simp only [DV]
      exact ⟨a, vs, rfl, za, ya⟩
    | _ => simp [binop] at e
  | _ => cases b <;> simp [binop] at e
theorem op_fdivD : OpR X (binaryOp .FloorDiv) (rB X.kw fun x y _ => binop .fdiv x y) := by
  intro pins s σ H x y v u Q I rx ry ⟨ρ, h, a, b, d, rh, qa, qb, e, o⟩
  cases a with
  | int i =>
    cases b with
    | int j =>
      simp only [binop] at e
      split at e
      case isFalse => cases e
      rename_i hz
      simp only [Option.some.injEq] at e; subst e
      cases qa.i; cases qb.i
      exact op_fdiv pins s σ H _ _ v u Q I rx ry ⟨i, j, rfl, rfl, hz, o.here rh (DV.int' _)⟩
    | _ => simp [binop] at e
  | _ => cases b <;> simp [binop] at e
theorem op_modD : OpR X (binaryOp .Mod) (rB X.kw fun x y _ => binop .mod x y) := by
  intro pins s σ H x y v u Q I rx ry ⟨ρ, h, a, b, d, rh, qa, qb, e, o⟩
  cases a with
  | int i =>
    cases b with
    | int j =>
      simp only [binop] at e
      split at e
      case isFalse => cases e
      rename_i hz
      simp only [Option.some.injEq] at e; subst e
      cases qa.i; cases qb.i
      exact op_mod pins s σ H _ _ v u Q I rx ry ⟨i, j, rfl, rfl, hz, o.here rh (DV.int' _)⟩
    | _ => simp [binop] at e
  | _ => cases b <;> simp [binop] at e
theorem op_powD : OpR X (binaryOp .Pow) (rB X.kw fun x y _ => binop .pow x y) := by
  intro pins s σ H x y v u Q I rx ry ⟨ρ, h, a, b, d, rh, qa, qb, e, o⟩
  cases a with
  | int i =>
    cases b with
    | int j =>
      simp only [binop] at e
      split at e
      case isFalse => cases e
      rename_i hz
      simp only [Option.some.injEq] at e; subst e
      cases qa.i; cases qb.i
      exact op_pow pins s σ H _ _ v u Q I rx ry ⟨i, j, rfl, rfl, hz, o.here rh (DV.int' _)⟩
    | _ => simp [binop] at e
  | _ => cases b <;> simp [binop] at e
def bopP : Bop → Operator
  | .add => .Add | .sub => .Sub | .mul => .Mult | .fdiv => .FloorDiv | .mod => .Mod | .pow => .Pow
theorem op_binD : ∀ op : Bop, OpR X (binaryOp (bopP op)) (rB X.kw fun x y _ => binop op x y)
  | .add => op_addD | .sub => op_subD | .mul => op_mulD | .fdiv => op_fdivD | .mod => op_modD | .pow => op_powD

/-! ### comparisons -/
def copP : Cop → CmpOp
  | .lt => .Lt | .le => .LtE | .gt => .Gt | .ge => .GtE | .eq => .Eq | .ne => .NotEq | .is => .Is | .isnot => .IsNot | .isin => .In | .notin => .NotIn
abbrev cmpB (K : Kw) (op : Cop) : R2 := rB K fun x y h => (cmpop op x y h).map .bl
theorem cmpI {op : Cop} {f : Int → Int → Bool} (hop : OpR X (compareOp (copP op)) (rI0 fun i j => .bl (f i j))) (hf : ∀ a b h, cmpop op a b h = match a, b with | .int i, .int j => some (f i j) | _, _ => none) :
    OpR X (compareOp (copP op)) (cmpB X.kw op) := by
  intro pins s σ H x y v u Q I rx ry ⟨ρ, h, a, b, d, rh, qa, qb, e, o⟩
  simp only [hf] at e
  cases a with
  | int i =>
    cases b with
    | int j =>
      simp only [Option.map_some, Option.some.injEq] at e; subst e
      cases qa.i; cases qb.i
      exact hop pins s σ H _ _ v u Q I rx ry ⟨i, j, rfl, rfl, o.here rh (DV.bl' _)⟩
    | _ => simp at e
  | _ => cases b <;> simp at e
theorem op_ltD : OpR X (compareOp .Lt) (cmpB X.kw .lt) := cmpI (op := .lt) (f := fun i j => decide (i < j)) op_lt fun a b h => by cases a <;> cases b <;> rfl
theorem op_leD : OpR X (compareOp .LtE) (cmpB X.kw .le) := cmpI (op := .le) (f := fun i j => decide (i ≤ j)) op_le fun a b h => by cases a <;> cases b <;> rfl
theorem op_gtD : OpR X (compareOp .Gt) (cmpB X.kw .gt) := cmpI (op := .gt) (f := fun i j => decide (j < i)) op_gt fun a b h => by cases a <;> cases b <;> rfl
theorem op_geD : OpR X (compareOp .GtE) (cmpB X.kw .ge) := cmpI (op := .ge) (f := fun i j => decide (j ≤ i)) op_ge fun a b h => by cases a <;> cases b <;> rfl
theorem deq_V {K : Kw} {ρ : Rho} {H : Hp} {a b : D} {x y : V} {k : Bool} (qa : DV K ρ H a x) (qb : DV K ρ H b y) (e : deq a b = some k) : scal x y = true ∧ decide (x = y) = k := by
  cases a with
  | non =>
    cases qa.n
    cases b with
    | non => cases qb.n; simp [deq, flat, beqD] at e; subst e; exact ⟨rfl, by simp⟩
    | bl b => cases qb.b; simp [deq, flat, beqD] at e; subst e; exact ⟨rfl, by simp⟩
    | int b => cases qb.i; simp [deq, flat, beqD] at e; subst e; exact ⟨rfl, by simp⟩
    | str b => cases qb.s; simp [deq, flat, beqD] at e; subst e; exact ⟨rfl, by simp⟩
    | _ => simp [deq, flat] at e
  | bl a =>
    cases qa.b
    cases b with
    | non => cases qb.n; simp [deq, flat, beqD] at e; subst e; exact ⟨rfl, by simp⟩
    | bl b => cases qb.b; simp [deq, flat, beqD] at e; subst e; exact ⟨rfl, by rw [dec_bl]⟩
    | str b => cases qb.s; simp [deq, flat, beqD] at e; subst e; exact ⟨rfl, by simp⟩
    | _ => simp [deq, flat] at e
  | int a =>
    cases qa.i
    cases b with
    | non => cases qb.n; simp [deq, flat, beqD] at e; subst e; exact ⟨rfl, by simp⟩
    | int b => cases qb.i; simp [deq, flat, beqD] at e; subst e; exact ⟨rfl, by rw [dec_int]⟩
    | str b => cases qb.s; simp [deq, flat, beqD] at e; subst e; exact ⟨rfl, by simp⟩
    | _ => simp [deq, flat] at e
  | str a =>
    cases qa.s
    cases b with
    | non => cases qb.n; simp [deq, flat, beqD] at e; subst e; exact ⟨rfl, by simp⟩
    | bl b => cases qb.b; simp [deq, flat, beqD] at e; subst e; exact ⟨rfl, by simp⟩
    | int b => cases qb.i; simp [deq, flat, beqD] at e; subst e; exact ⟨rfl, by simp⟩
    | str b => cases qb.s; simp [deq, flat, beqD] at e; subst e; exact ⟨rfl, by rw [dec_str, beq_ofString]⟩
    | _ => simp [deq, flat] at e
  | _ => cases b <;> simp [deq, flat] at e
theorem op_eqD' (hu : X.A.units + 64 < cLine) : OpR X (compareOp .Eq) (cmpB X.kw .eq) := op_eqO hu
theorem op_neD' (hu : X.A.units + 64 < cLine) : OpR X (compareOp .NotEq) (cmpB X.kw .ne) := op_neO hu
def isN : D → Bool
  | .non => true
  | _ => false
theorem isN_V {K : Kw} {ρ : Rho} {H : Hp} {a : D} {x : V} (qa : DV K ρ H a x) : decide (x = .non) = isN a := by
  cases a with
  | non => cases qa.n; rfl
  | bl b => cases qa.b; rfl
  | int b => cases qa.i; rfl
  | str b => cases qa.s; rfl
  | tup b => obtain ⟨_, _, rfl, _⟩ := qa.t; rfl
  | lst b => obtain ⟨_, _, rfl, _⟩ := qa.l; rfl
  | rol b => obtain ⟨_, _, rfl, _⟩ := qa.o; rfl
  | ref b => obtain ⟨_, rfl, _⟩ := qa.r; rfl
def isB (b : Bool) : D → Bool
  | .bl c => c == b
  | _ => false
theorem op_isB {pins : List (Addr × Obj)} {s : Shared} {σ : L2.St} {H : Hp} {x : V} {v : Value} {b : Bool} {Q : VK} {a : D} {K : Kw} {ρ : Rho} (I : Inv X pins σ H s) (rx : RelV x v) (qa : DV K ρ H a x) (q : Q (.bl (isB b a)) H) :
    wpAny (model X.prog X.w) X.A (compareOp .Is v (.bool b)) (EP X pins σ Q) X.xe s := by
  have go : ∀ {v : Value}, plainIs v (.bool b) = true → (v == Value.bool b) = isB b a → wpAny (model X.prog X.w) X.A (compareOp .Is v (.bool b)) (EP X pins σ Q) X.xe s := fun {v} hp he => by
    refine wpAny_is_plain hp ?_
    rw [he]
    exact ⟨.bl _, H, I, rfl, q⟩
  cases a with
  | non => cases qa.n; cases rx; exact go rfl rfl
  | bl c => cases qa.b; cases rx; exact go rfl (by rw [Bool.eq_iff_iff]; simp [isB])
  | int c => cases qa.i; obtain ⟨t, rfl⟩ := rx; exact go rfl rfl
  | str c => cases qa.s; obtain ⟨t, rfl⟩ := rx; exact go rfl rfl
  | tup c => obtain ⟨_, _, rfl, _⟩ := qa.t; cases rx; exact go rfl rfl
  | lst c => obtain ⟨_, _, rfl, _⟩ := qa.l; cases rx; exact go rfl rfl
  | rol c => obtain ⟨_, _, rfl, _⟩ := qa.o; cases rx; exact go rfl rfl
  | ref c => obtain ⟨_, rfl, _⟩ := qa.r; cases rx; exact go rfl rfl
theorem op_isD : OpR X (compareOp .Is) (cmpB X.kw .is) := by
  intro pins s σ H x y v u Q I rx ry ⟨ρ, h, a, b, d, rh, qa, qb, e, o⟩
  cases b with
  | non =>
    have e' : d = .bl (isN a) := by
      cases a <;> simp [cmpop] at e <;> exact e.symm
    subst e'
    exact op_isN pins s σ H x y v u Q I rx ry ⟨qb.n, by rw [isN_V qa]; exact o.here rh (DV.bl' _)⟩
  | bl b =>
    have e' : d = .bl (isB b a) := by
      cases a <;> simp [cmpop] at e <;> exact e.symm
    subst e'
    cases qb.b
    cases ry
    exact op_isB I rx qa (o.here rh (DV.bl' _))
  | _ => cases a <;> simp [cmpop] at e
theorem op_isnotD : OpR X (compareOp .IsNot) (cmpB X.kw .isnot) := by
  intro pins s σ H x y v u Q I rx ry ⟨ρ, h, a, b, d, rh, qa, qb, e, o⟩
  cases b with
  | non =>
    have e' : d = .bl (!isN a) := by
      cases a <;> simp [cmpop] at e <;> exact e.symm
    subst e'
    exact op_notN pins s σ H x y v u Q I rx ry ⟨qb.n, by rw [isN_V qa]; exact o.here rh (DV.bl' _)⟩
  | _ => cases a <;> simp [cmpop] at e
theorem op_inD : OpR X (compareOp .In) (cmpB X.kw .isin) := by
  intro pins s σ H x y v u Q I rx ry ⟨ρ, h, a, b, d, rh, qa, qb, e, o⟩
  simp only [cmpop] at e
  cases ei : items b h with
  | none => simp [ei] at e
  | some ds =>
    obtain ⟨p, vs, rfl, sq, qs⟩ := items_sq rh qb ei
    simp only [ei, Option.bind_some] at e
    split at e
    case isFalse => simp at e
    rename_i hz
    rw [Bool.and_eq_true] at hz
    simp only [Option.map_some, Option.some.injEq] at e; subst e
    exact op_in_seq pins s σ H x _ v u Q I rx ry ⟨p, vs, rfl, sq, flat_V qa hz.1, flats_V qs hz.2, by
      rw [inV_beqD qa hz.1 qs hz.2]; exact o.here rh (DV.bl' _)⟩
theorem op_notinD : OpR X (compareOp .NotIn) (cmpB X.kw .notin) := by
  intro pins s σ H x y v u Q I rx ry ⟨ρ, h, a, b, d, rh, qa, qb, e, o⟩
  simp only [cmpop] at e
  cases ei : items b h with
  | none => simp [ei] at e
  | some ds =>
    obtain ⟨p, vs, rfl, sq, qs⟩ := items_sq rh qb ei
    simp only [ei, Option.bind_some] at e
    split at e
    case isFalse => simp at e
    rename_i hz
    rw [Bool.and_eq_true] at hz
    simp only [Option.map_some, Option.some.injEq] at e; subst e
    exact op_notIn_seq pins s σ H x _ v u Q I rx ry ⟨p, vs, rfl, sq, flat_V qa hz.1, flats_V qs hz.2, by
      rw [inV_beqD qa hz.1 qs hz.2]; exact o.here rh (DV.bl' _)⟩
theorem op_cmpD (hu : X.A.units + 64 < cLine) : ∀ op : Cop, OpR X (compareOp (copP op)) (cmpB X.kw op)
  | .lt => op_ltD | .le => op_leD | .gt => op_gtD | .ge => op_geD | .eq => op_eqD' hu | .ne => op_neD' hu | .is => op_isD | .isnot => op_isnotD | .isin => op_inD | .notin => op_notinD
end
end PyD

/-! PyD2b: a tuple's slice that is the whole of it. -/
namespace PyD
open PySem PySem.Spec PyProof.Rows L2 HT
section
variable {prog : Program} {w : World} {A : Around} {E : Value → Shared → Prop} {s : Shared}
theorem getItem_tuple_whole {t sl : Addr} {items : Array Value} {vl vu : Value} {lo hi : Option Int} {Q : Value → Shared → Prop} (ht : IsTup s.heap t items) (hs : s.heap.IsSliceOf sl vl vu .none) (pl : IsPart vl lo) (pu : IsPart vu hi)
    (hw : sIx items.size 0 lo = 0 ∧ sIx items.size items.size hi = items.size)
    (h : Q (.ref t) s) : wpAny (model prog w) A (getItem (.ref t) (.ref sl)) Q E s := by
  obtain ⟨os, hos, hcs, hds⟩ := id hs
  have hTs : s.TypeIs (.ref sl) "slice" := ⟨os, hos, hcs⟩
  unfold getItem
  try with_reducible refine wpAny_holding ?_
  first | refine wpAny_bind (wpAny_pure ?_) | skip
  refine wpAny_bind (wpAny_sequenceKey ht.typeIs (by decide) ?_)
  refine wpAny_bind (wpAny_callSpecial?_slot (name := Str.ofString "__getitem__") ht.typeIs PyProof.Rows.slot_tuple_getitem
    (wpAny_call_entry PyProof.Rows.slot_tuple_getitem ht.typeIs entry_tuple_getitem ?_ (args_tuple_getitem _ _)))
  show wpAny _ _ (Builtin.Tuple.tupleItemsOf (.ref t) >>= _) _ _ s
  refine wpAny_bind (tupleItemsOf_ ht ?_)
  refine wpAny_bind (wpAny_typeOf hTs ?_)
  rw [if_pos (by decide)]
  refine wpAny_bind (sliceApplied_gen hs pl pu ?_)
  have hyes : (((sIx items.size 0 lo : Nat) : Int) == 0 && (1 : Int) == 1 && (sIx items.size items.size hi - sIx items.size 0 lo) == items.size) = true := by
    rw [hw.1, hw.2]; simp
  show wpAny _ _ (if (((sIx items.size 0 lo : Nat) : Int) == 0 && (1 : Int) == 1 && (sIx items.size items.size hi - sIx items.size 0 lo) == items.size) = true then _ else _) _ _ s
  rw [if_pos hyes]
  unfold Builtin.Tuple.tupleIsExact
  first
    | exact wpAny_bind (wpAny_bind (wpAny_typeOf ht.typeIs (wpAny_pure (by rw [if_pos (by decide)]; exact wpAny_bind (wpAny_rule (wpAny_pure ⟨_, rfl, wpAny_pure h⟩))))))
    | (refine wpAny_bind (wpAny_bind (wpAny_typeOf ht.typeIs (wpAny_pure ?_)))
       rw [if_pos (by decide)]
       refine wpAny_bind (wpAny_rule ?_)
       trace_state
       exact wpAny_pure ⟨_, rfl, wpAny_pure h⟩)
end
section
variable {X : Cx}
/-- t[lo:hi] -/
def rSlA (K : Kw) : V → Option Int → Option Int → Hp → VK → Prop := fun x lo hi H Q => ∃ a xs, x = .ref a ∧ SqT K H a xs ∧
  (cutV xs lo hi = xs → Q (.ref a) H) ∧ ∀ p, H p = none → Q (.ref p) (upd H p (.tup (cutV xs lo hi)))
theorem sl_tupA : SlR X (rSlA X.kw) := by
  intro pins s σ H x v vl vu lo hi sl Q I rx hs pl pu h
  obtain ⟨a, xs, rfl, hx, hw, q⟩ := h
  by_cases hz : HT.sIx xs.length 0 lo = 0 ∧ HT.sIx xs.length xs.length hi = xs.length
  · cases rx
    obtain ⟨its, r, ht, _⟩ := I.tuple hx
    have hlen : its.toArray.size = xs.length := by rw [List.size_toArray]; exact r.length.symm
    refine ⟨"tuple", _, PyProof.Rows.slot_tuple_getitem.lookup, ht.typeIs, ?_⟩
    refine getItem_tuple_whole ht hs pl pu (by rw [hlen]; exact hz) ⟨.ref a, H, I, rfl, hw ?_⟩
    unfold cutV
    rw [hz.1, hz.2]; simp
  · exact sl_tup pins s σ H _ v vl vu lo hi sl Q I rx hs pl pu ⟨a, xs, rfl, hx, hz, q⟩
end
end PyD

/-! PyD3: expressions by data. -/
namespace PyD
open PySem PySem.Spec PyProof.Rows L2

/-! ### the syntax's side conditions -/
def plainE : Expr → Bool
  | .Starred .. => false
  | .Slice .. => false
  | _ => true
theorem star_cons {e : Expr} (h : plainE e = true) (es : List Expr) (env : Env) : starEach (e :: es) env = (false, eval e env) :: starEach es env := by
  cases e <;> first | rfl | simp [plainE] at h
theorem star_any (pos : Pos) (env : Env) : ∀ {es : List Expr}, es.all plainE = true → (backTo pos (starEach es env)).any (·.1) = false
  | [], _ => rfl
  | e :: es, h => by
    rw [List.all_cons, Bool.and_eq_true] at h
    rw [star_cons h.1]
    show (false || (backTo pos (starEach es env)).any (·.1)) = false
    rw [star_any pos env h.2]; rfl
theorem star_all (pos : Pos) (env : Env) : ∀ {es : List Expr}, es.all plainE = true → (backTo pos (starEach es env)).all (fun x => !x.1) = true
  | [], _ => rfl
  | e :: es, h => by
    rw [List.all_cons, Bool.and_eq_true] at h
    rw [star_cons h.1]
    show (true && (backTo pos (starEach es env)).all (fun x => !x.1)) = true
    rw [star_all pos env h.2]; rfl
theorem plain_ix {b : Expr} (h : plainE b = true) : PlainIx b := by
  intro o i
  cases b <;> first | rfl | simp [plainE] at h

section
variable {X : Cx} {e a b : Expr} {es : List Expr} {pos : Pos} {m ma mb : Sl → AH → Option (D × AH)} {ms : Sl → AH → Option (List D × AH)}
/-! ### lists of expressions -/
theorem ra_nil : RA X [] (fun _ h => some ([], h)) := pa_nil.imp fun σ H Q ⟨ρ, σd, h, ds, h', rs, rh, e, o⟩ => by
  simp only [Option.some.injEq, Prod.mk.injEq] at e
  obtain ⟨rfl, rfl⟩ := e
  exact o [] H ρ (Ext.refl _ _) rh .nil
theorem ra_cons (hp : plainE e = true) (he : RE X e m) (hs : RA X es ms) : RA X (e :: es) (fun σ h => (m σ h).bind fun (d, h1) => (ms σ h1).bind fun (ds, h2) => some (d :: ds, h2)) :=
  (pa_cons he hs (star_cons hp _ _)).imp fun σ H Q ⟨ρ, σd, h, ds, h', rs, rh, e, o⟩ => by
    cases ea : m σd h with
    | none => simp [ea] at e
    | some p =>
      obtain ⟨x, h1⟩ := p
      cases eb : ms σd h1 with
      | none => simp [ea, eb] at e
      | some p =>
        obtain ⟨xs, h2⟩ := p
        simp [ea, eb] at e
        obtain ⟨rfl, rfl⟩ := e
        exact ⟨ρ, σd, h, x, h1, rs, rh, ea, fun v H1 ρ1 e1 r1 q1 => ⟨ρ1, σd, h1, xs, h2, rs.ext e1, r1, eb, fun vs H2 ρ2 e2 r2 q2 => o _ H2 ρ2 (e1.trans e2) r2 (.cons (DV.ext e2 x q1) q2)⟩⟩

/-! ### atoms -/
theorem re_var {i : Nat} {x : Str} (hN : X.N[i]? = some x) (hv : Vis X.env.scope x) (hd : (x == ("__debug__" : Str)) = false) (hcd : (x == ("__classdict__" : Str)) = false) :
    RE X (.Name x pos) (fun σ h => match σ[i]? with | some (some d) => some (d, h) | _ => none) :=
  (pe_var hN hv hd hcd).imp fun σ H Q ⟨ρ, σd, h, d, h', rs, rh, e, o⟩ => by
    cases ei : σd[i]? with
    | none => simp [ei] at e
    | some z =>
      cases z with
      | none => simp [ei] at e
      | some d' =>
        simp only [ei, Option.some.injEq, Prod.mk.injEq] at e
        obtain ⟨rfl, rfl⟩ := e
        obtain ⟨v, e1, q⟩ := rs.val i _ ei
        exact ⟨v, e1, o.here rh q⟩
theorem re_c {v : V} {d : D} (h : PE X e (tC v)) (q : ∀ ρ H, DV X.kw ρ H d v) : RE X e (fun _ h => some (d, h)) :=
  h.imp fun σ H Q ⟨ρ, σd, h, d', h', rs, rh, e, o⟩ => by
    simp only [Option.some.injEq, Prod.mk.injEq] at e
    obtain ⟨rfl, rfl⟩ := e
    exact o.here rh (q ρ H)
theorem re_tup {k : Nat} (h : RA X es ms) (hz : es.length ≤ 1000) (hl : ∀ σ h ds h', ms σ h = some (ds, h') → ds.length = es.length) : RE X (.Tuple es k pos) (fun σ h => (ms σ h).bind fun (ds, h1) => some (.tup ds, h1)) :=
  (pe_tup h).imp fun σ H Q ⟨ρ, σd, h, d, h', rs, rh, e, o⟩ => by
    cases ea : ms σd h with
    | none => simp [ea] at e
    | some p =>
      obtain ⟨xs, h1⟩ := p
      simp [ea] at e
      obtain ⟨rfl, rfl⟩ := e
      refine ⟨ρ, σd, h, xs, h1, rs, rh, ea, fun vs H1 ρ1 e1 r1 q1 => ⟨?_, (o.ext e1).tup r1 q1⟩⟩
      have := hl _ _ _ _ ea
      rw [← q1.length, this, lim_eq]
      exact Nat.le_trans hz (by decide)
theorem rf_disp (h : RA X es ms) (hz : es.length ≤ 1000) (hl : ∀ σ h ds h', ms σ h = some (ds, h') → ds.length = es.length) : RF X (.List es pos) ms :=
  (pe_lst h).imp fun σ H Q ⟨ρ, σd, h, xs, h1, rs, rh, ea, o⟩ => by
    refine ⟨ρ, σd, h, xs, h1, rs, rh, ea, fun vs H1 ρ1 e1 r1 q1 => ⟨?_, fun p n => o p vs H1 ρ1 e1 r1 n q1⟩⟩
    have := hl _ _ _ _ ea
    rw [← q1.length, this, lim_eq]
    exact Nat.le_trans hz (by decide)
/-! ### a new list, as a value, as a mutable object -/
theorem re_fv (h : RF X e ms) : RE X e (fun σ h => (ms σ h).bind fun (ds, h1) => some (.lst ds, h1)) :=
  h.imp fun σ H Q ⟨ρ, σd, h, d, h', rs, rh, e, o⟩ => by
    cases ea : ms σd h with
    | none => simp [ea] at e
    | some p =>
      obtain ⟨xs, h1⟩ := p
      simp [ea] at e
      obtain ⟨rfl, rfl⟩ := e
      exact ⟨ρ, σd, h, xs, h1, rs, rh, ea, fun p vs H1 ρ1 e1 r1 n q1 => (o.ext e1).lst r1 q1 p n⟩
theorem re_fm (h : RF X e ms) : RE X e (fun σ h => (ms σ h).bind fun (ds, h1) => some (.ref h1.length, h1 ++ [.lst ds])) :=
  h.imp fun σ H Q ⟨ρ, σd, h, d, h', rs, rh, e, o⟩ => by
    cases ea : ms σd h with
    | none => simp [ea] at e
    | some p =>
      obtain ⟨xs, h1⟩ := p
      simp [ea] at e
      obtain ⟨rfl, rfl⟩ := e
      refine ⟨ρ, σd, h, xs, h1, rs, rh, ea, fun p vs H1 ρ1 e1 r1 n q1 => o _ _ (ρ1.push p) (e1.trans (Ext.push n)) (r1.push n q1) ?_⟩
      simp only [DV]
      exact ⟨p, rfl, by show (ρ1.r ++ [p])[h1.length]? = some p; rw [← r1.len]; simp⟩

/-! ### operators -/
theorem re_bin {op : Bop} (ha : RE X a ma) (hb : RE X b mb) : RE X (.BinOp a (bopP op) b pos) (fun σ h => (ma σ h).bind fun (x, h1) => (mb σ h1).bind fun (y, h2) => (binop op x y).bind fun z => some (z, h2)) :=
  (pe_op (op_binD op) ha hb).imp fun σ H Q q => tOp_imp (g := fun x y _ => binop op x y) σ H Q q
theorem re_neg (ha : RE X a ma) : RE X (.UnaryOp .USub a pos) (fun σ h => (ma σ h).bind fun (x, h1) => match x with | .int i => some (.int (-i), h1) | _ => none) :=
  (pe_un un_neg ha).imp fun σ H Q ⟨ρ, σd, h, d, h', rs, rh, e, o⟩ => by
    cases ea : ma σd h with
    | none => simp [ea] at e
    | some p =>
      obtain ⟨x, h1⟩ := p
      cases x with
      | int i =>
        simp [ea] at e
        obtain ⟨rfl, rfl⟩ := e
        refine ⟨ρ, σd, h, _, h1, rs, rh, ea, fun v H1 ρ1 e1 r1 q1 => ⟨i, q1.i, (o.ext e1).here r1 (DV.int' _)⟩⟩
      | _ => simp [ea] at e
theorem re_cmp {op : Cop} (hu : X.A.units + 64 < cLine) (ha : RE X a ma) (hb : RE X b mb) (hm : behindInMarks (copP op) b = false) :
    RE X (.Compare a [copP op] [b] pos) (fun σ h => (ma σ h).bind fun (x, h1) => (mb σ h1).bind fun (y, h2) => (cmpop op x y h2).bind fun z => some (.bl z, h2)) :=
  (pe_cmpR (op_cmpD hu op) ha hb hm).imp fun σ H Q q => by
    refine tOp_imp (g := fun x y h => (cmpop op x y h).map .bl) σ H Q ?_
    obtain ⟨ρ, σd, h, d, h', rs, rh, e, o⟩ := q
    refine ⟨ρ, σd, h, d, h', rs, rh, ?_, o⟩
    cases ea : ma σd h with
    | none => simp [ea] at e
    | some p =>
      obtain ⟨x, h1⟩ := p
      cases eb : mb σd h1 with
      | none => simp [ea, eb] at e
      | some p =>
        obtain ⟨y, h2⟩ := p
        cases eg : cmpop op x y h2 with
        | none => simp [ea, eb, eg] at e
        | some k => simpa [ea, eb, eg] using e
theorem re_chain {op op' : Cop} {c : Expr} {mc : Sl → AH → Option (D × AH)} (hu : X.A.units + 64 < cLine) (ha : RE X a ma) (hb : RE X b mb) (hc : RE X c mc) (hm : lastMarks [copP op, copP op'] [b, c] = false) :
    RE X (.Compare a [copP op, copP op'] [b, c] pos) (fun σ h => (ma σ h).bind fun (x, h1) => (mb σ h1).bind fun (y, h2) => (cmpop op x y h2).bind fun k =>
      if k then (mc σ h2).bind fun (z, h3) => (cmpop op' y z h3).bind fun k' => some (.bl k', h3) else some (.bl false, h2)) :=
  (pe_chain (op_cmpD hu op) (op_cmpD hu op') ha hb hc hm).imp fun σ H Q ⟨ρ, σd, h, d, h', rs, rh, e, o⟩ => by
    cases ea : ma σd h with
    | none => simp [ea] at e
    | some p =>
      obtain ⟨x, h1⟩ := p
      cases eb : mb σd h1 with
      | none => simp [ea, eb] at e
      | some p =>
        obtain ⟨y, h2⟩ := p
        cases eg : cmpop op x y h2 with
        | none => simp [ea, eb, eg] at e
        | some k =>
          refine ⟨ρ, σd, h, x, h1, rs, rh, ea, fun v H1 ρ1 e1 r1 q1 => ⟨ρ1, σd, h1, y, h2, rs.ext e1, r1, eb, fun w H2 ρ2 e2 r2 q2 => ⟨ρ2, h2, x, y, .bl k, r2, DV.ext e2 x q1, q2, by simp [eg], fun z H3 ρ3 e3 r3 q3 => ⟨k, q3.b, ?_⟩⟩⟩⟩
          cases k with
          | false =>
            simp [ea, eb, eg] at e
            obtain ⟨rfl, rfl⟩ := e
            rw [if_neg Bool.false_ne_true]
            exact (o.ext (e1.trans (e2.trans e3))).here r3 (DV.bl' _)
          | true =>
            rw [if_pos rfl]
            cases ec : mc σd h2 with
            | none => simp [ea, eb, eg, ec] at e
            | some p =>
              obtain ⟨z', h3⟩ := p
              cases eg' : cmpop op' y z' h3 with
              | none => simp [ea, eb, eg, ec, eg'] at e
              | some k' =>
                simp [ea, eb, eg, ec, eg'] at e
                obtain ⟨rfl, rfl⟩ := e
                exact ⟨ρ3, σd, h2, z', h3, rs.ext (e1.trans (e2.trans e3)), r3, ec, fun w' H4 ρ4 e4 r4 q4 => ⟨ρ4, h3, y, z', .bl k', r4, DV.ext (e3.trans e4) y q2, q4, by simp [eg'], o.ext (e1.trans (e2.trans (e3.trans e4)))⟩⟩
theorem truth_V {K : Kw} {ρ : Rho} {H : Hp} {h : AH} {d : D} {v : V} {k : Bool} (rh : RepH K ρ H h) (q : DV K ρ H d v) (e : truth d h = some k) : TruV K v H k := by
  have emp : ∀ {ds : List D} {vs : List V}, DVs K ρ H ds vs → vs.isEmpty = ds.isEmpty := fun {ds vs} y => by
    cases ds with
    | nil => simp only [DVs] at y; subst y; rfl
    | cons d ds =>
      simp only [DVs] at y
      obtain ⟨v, r, rfl, _⟩ := y
      rfl
  cases d with
  | non => cases q.n; simp [truth] at e; exact e
  | bl b => cases q.b; simp [truth] at e; exact e.symm
  | int b => cases q.i; simp only [truth, Option.some.injEq] at e; exact e.symm
  | str b => simp [truth] at e
  | tup ds =>
    obtain ⟨a, vs, rfl, z, y⟩ := q.t
    simp only [truth, Option.some.injEq] at e
    exact .inr (.inl ⟨vs, z.sq, by rw [emp y]; exact e.symm⟩)
  | lst ds =>
    obtain ⟨a, vs, rfl, z, y⟩ := q.l
    simp only [truth, Option.some.injEq] at e
    exact .inl ⟨vs, z.sq, by rw [emp y]; exact e.symm⟩
  | rol ds =>
    obtain ⟨a, vs, rfl, z, y⟩ := q.o
    simp only [truth, Option.some.injEq] at e
    exact .inl ⟨vs, z.sq, by rw [emp y]; exact e.symm⟩
  | ref n =>
    simp only [truth] at e
    obtain ⟨a, rfl, z⟩ := q.r
    obtain ⟨ob, e1, ok⟩ := rh.at' z
    rw [e1] at e
    cases ob with
    | dct kvs => simp at e
    | ids ks => simp at e
    | lst xs =>
      simp only [Option.some.injEq] at e
      obtain ⟨vs, e2, y⟩ := ok
      exact .inl ⟨vs, .of e2, by rw [emp y]; exact e.symm⟩
abbrev tstM (m : Sl → AH → Option (D × AH)) : Sl → AH → Option (Bool × AH) := fun σ h => (m σ h).bind fun (d, h1) => (truth d h1).bind fun k => some (k, h1)
theorem tstM_imp {t : TE} (hh : ∀ σ H Q, tD X.kw m σ H Q → t σ H Q) (σ : L2.St) (H : Hp) (Q : Bool → Hp → Prop) (q : tDT X.kw (tstM m) σ H Q) : t σ H fun x H' => ∃ k, TruV X.kw x H' k ∧ Q k H' := by
  obtain ⟨ρ, σd, h, b, h', rs, rh, e, o⟩ := q
  cases ea : m σd h with
  | none => simp [tstM, ea] at e
  | some p =>
    obtain ⟨x, h1⟩ := p
    cases et : truth x h1 with
    | none => simp [tstM, ea, et] at e
    | some k =>
      simp [tstM, ea, et] at e
      obtain ⟨rfl, rfl⟩ := e
      exact hh _ _ _ ⟨ρ, σd, h, x, h1, rs, rh, ea, fun v H1 ρ1 e1 r1 q1 => ⟨k, truth_V r1 q1 et, o H1 ρ1 e1 r1⟩⟩
theorem re_not (ha : RE X a ma) : RE X (.UnaryOp .Not a pos) (fun σ h => (ma σ h).bind fun (d, h1) => (truth d h1).bind fun k => some (.bl (!k), h1)) :=
  (pe_notT ha).imp fun σ H Q ⟨ρ, σd, h, d, h', rs, rh, e, o⟩ => by
    cases ea : ma σd h with
    | none => simp [ea] at e
    | some p =>
      obtain ⟨x, h1⟩ := p
      cases et : truth x h1 with
      | none => simp [ea, et] at e
      | some k =>
        simp [ea, et] at e
        obtain ⟨rfl, rfl⟩ := e
        exact ⟨ρ, σd, h, x, h1, rs, rh, ea, fun v H1 ρ1 e1 r1 q1 => ⟨k, truth_V r1 q1 et, (o.ext e1).here r1 (DV.bl' _)⟩⟩
theorem re_one {op : BoolOp} (ha : RE X a ma) : RE X (.BoolOp op [a] pos) ma := pe_one ha
theorem re_and (ha : RE X a ma) (hb : RE X (.BoolOp .And (b :: es) pos) mb) : RE X (.BoolOp .And (a :: b :: es) pos) (fun σ h => (ma σ h).bind fun (d, h1) => (truth d h1).bind fun k => if k == true then mb σ h1 else some (d, h1)) :=
  (pe_andT ha hb).imp fun σ H Q ⟨ρ, σd, h, d, h', rs, rh, e, o⟩ => by
    cases ea : ma σd h with
    | none => simp [ea] at e
    | some p =>
      obtain ⟨x, h1⟩ := p
      cases et : truth x h1 with
      | none => simp [ea, et] at e
      | some k =>
        refine ⟨ρ, σd, h, x, h1, rs, rh, ea, fun v H1 ρ1 e1 r1 q1 => ⟨k, truth_V r1 q1 et, ?_⟩⟩
        cases k with
        | true =>
          simp [ea, et] at e
          rw [if_pos rfl]
          exact ⟨ρ1, σd, h1, d, h', rs.ext e1, r1, e, o.ext e1⟩
        | false =>
          simp [ea, et] at e
          obtain ⟨rfl, rfl⟩ := e
          rw [if_neg Bool.false_ne_true]
          exact (o.ext e1).here r1 q1
theorem re_or (ha : RE X a ma) (hb : RE X (.BoolOp .Or (b :: es) pos) mb) : RE X (.BoolOp .Or (a :: b :: es) pos) (fun σ h => (ma σ h).bind fun (d, h1) => (truth d h1).bind fun k => if k == false then mb σ h1 else some (d, h1)) :=
  (pe_orT ha hb).imp fun σ H Q ⟨ρ, σd, h, d, h', rs, rh, e, o⟩ => by
    cases ea : ma σd h with
    | none => simp [ea] at e
    | some p =>
      obtain ⟨x, h1⟩ := p
      cases et : truth x h1 with
      | none => simp [ea, et] at e
      | some k =>
        refine ⟨ρ, σd, h, x, h1, rs, rh, ea, fun v H1 ρ1 e1 r1 q1 => ⟨k, truth_V r1 q1 et, ?_⟩⟩
        cases k with
        | false =>
          simp [ea, et] at e
          rw [if_neg Bool.false_ne_true]
          exact ⟨ρ1, σd, h1, d, h', rs.ext e1, r1, e, o.ext e1⟩
        | true =>
          simp [ea, et] at e
          obtain ⟨rfl, rfl⟩ := e
          rw [if_pos rfl]
          exact (o.ext e1).here r1 q1
/-! ### tests -/
/-- a test that asks its value's truth -/
theorem rt_val (ha : RE X a ma) (he : ∀ whole, isTrue a X.env whole = (do let v ← whole; standAt a.pos; holding [v] (truthy v))) : RT X a (tstM ma) :=
  (pt_truth ha he).imp fun σ H Q q => tstM_imp (fun _ _ _ z => z) σ H Q q
theorem rt_cmp {op : Cop} (hu : X.A.units + 64 < cLine) (ha : RE X a ma) (hb : RE X b mb) (hm : behindInMarks (copP op) b = false) :
    RT X (.Compare a [copP op] [b] pos) (tstM fun σ h => (ma σ h).bind fun (x, h1) => (mb σ h1).bind fun (y, h2) => (cmpop op x y h2).bind fun z => some (.bl z, h2)) :=
  (pt_cmpR (op_cmpD hu op) ha hb hm).imp fun σ H Q ⟨ρ, σd, h, d, h', rs, rh, e, o⟩ => by
    cases ea : ma σd h with
    | none => simp [tstM, ea] at e
    | some p =>
      obtain ⟨x, h1⟩ := p
      cases eb : mb σd h1 with
      | none => simp [tstM, ea, eb] at e
      | some p =>
        obtain ⟨y, h2⟩ := p
        cases eg : cmpop op x y h2 with
        | none => simp [tstM, ea, eb, eg] at e
        | some k =>
          simp [tstM, ea, eb, eg, truth] at e
          obtain ⟨rfl, rfl⟩ := e
          exact ⟨ρ, σd, h, x, h1, rs, rh, ea, fun v H1 ρ1 e1 r1 q1 => ⟨ρ1, σd, h1, y, h2, rs.ext e1, r1, eb, fun w H2 ρ2 e2 r2 q2 => ⟨ρ2, h2, x, y, .bl k, r2, DV.ext e2 x q1, q2, by simp [eg], fun z H3 ρ3 e3 r3 q3 => ⟨k, q3.b, o H3 ρ3 (e1.trans (e2.trans e3)) r3⟩⟩⟩⟩
theorem rt_chain {op op' : Cop} {c : Expr} {mc : Sl → AH → Option (D × AH)} (hu : X.A.units + 64 < cLine) (ha : RE X a ma) (hb : RE X b mb) (hc : RE X c mc) (hm : lastMarks [copP op, copP op'] [b, c] = false) :
    RT X (.Compare a [copP op, copP op'] [b, c] pos) (tstM fun σ h => (ma σ h).bind fun (x, h1) => (mb σ h1).bind fun (y, h2) => (cmpop op x y h2).bind fun k =>
      if k then (mc σ h2).bind fun (z, h3) => (cmpop op' y z h3).bind fun k' => some (.bl k', h3) else some (.bl false, h2)) :=
  (pt_chain (op_cmpD hu op) (op_cmpD hu op') ha hb hc hm).imp fun σ H Q ⟨ρ, σd, h, d, h', rs, rh, e, o⟩ => by
    cases ea : ma σd h with
    | none => simp [tstM, ea] at e
    | some p =>
      obtain ⟨x, h1⟩ := p
      cases eb : mb σd h1 with
      | none => simp [tstM, ea, eb] at e
      | some p =>
        obtain ⟨y, h2⟩ := p
        cases eg : cmpop op x y h2 with
        | none => simp [tstM, ea, eb, eg] at e
        | some k =>
          refine ⟨ρ, σd, h, x, h1, rs, rh, ea, fun v H1 ρ1 e1 r1 q1 => ⟨ρ1, σd, h1, y, h2, rs.ext e1, r1, eb, fun w H2 ρ2 e2 r2 q2 => ⟨ρ2, h2, x, y, .bl k, r2, DV.ext e2 x q1, q2, by simp [eg], fun z H3 ρ3 e3 r3 q3 => ⟨k, q3.b, ?_⟩⟩⟩⟩
          cases k with
          | false =>
            simp [tstM, ea, eb, eg, truth] at e
            obtain ⟨rfl, rfl⟩ := e
            rw [if_neg Bool.false_ne_true]
            exact ⟨false, rfl, o H3 ρ3 (e1.trans (e2.trans e3)) r3⟩
          | true =>
            rw [if_pos rfl]
            cases ec : mc σd h2 with
            | none => simp [tstM, ea, eb, eg, ec] at e
            | some p =>
              obtain ⟨z', h3⟩ := p
              cases eg' : cmpop op' y z' h3 with
              | none => simp [tstM, ea, eb, eg, ec, eg'] at e
              | some k' =>
                simp [tstM, ea, eb, eg, ec, eg', truth] at e
                obtain ⟨rfl, rfl⟩ := e
                exact ⟨ρ3, σd, h2, z', h3, rs.ext (e1.trans (e2.trans e3)), r3, ec, fun w' H4 ρ4 e4 r4 q4 => ⟨ρ4, h3, y, z', .bl k', r4, DV.ext (e3.trans e4) y q2, q4, by simp [eg'], fun u H5 ρ5 e5 r5 q5 => ⟨k', q5.b, o H5 ρ5 (e1.trans (e2.trans (e3.trans (e4.trans e5)))) r5⟩⟩⟩
theorem rt_not (ha : RT X a (tstM ma)) : RT X (.UnaryOp .Not a pos) (tstM fun σ h => (ma σ h).bind fun (d, h1) => (truth d h1).bind fun k => some (.bl (!k), h1)) :=
  (pt_not ha).imp fun σ H Q ⟨ρ, σd, h, d, h', rs, rh, e, o⟩ => by
    cases ea : ma σd h with
    | none => simp [tstM, ea] at e
    | some p =>
      obtain ⟨x, h1⟩ := p
      cases et : truth x h1 with
      | none => simp [tstM, ea, et] at e
      | some k =>
        have tb : truth (.bl (!k)) h1 = some (!k) := rfl
        simp [tstM, ea, et, tb] at e
        obtain ⟨rfl, rfl⟩ := e
        exact ⟨ρ, σd, h, !d, h1, rs, rh, by simp [tstM, ea, et], fun H1 ρ1 e1 r1 => by show Q (!!d) H1; rw [Bool.not_not]; exact o H1 ρ1 e1 r1⟩
/-- .. of and, or: whatever stands around -/
abbrev RW (X : Cx) (e : Expr) (m : Sl → AH → Option (Bool × AH)) : Prop := PW X e (tDT X.kw m)
theorem rw_and1 (ha : RT X a (tstM ma)) : RW X (.BoolOp .And [a] pos) (tstM ma) := pw_and1 ha
theorem rw_or1 (ha : RT X a (tstM ma)) : RW X (.BoolOp .Or [a] pos) (tstM ma) := pw_or1 ha
theorem rw_and (ha : RT X a (tstM ma)) (hb : RW X (.BoolOp .And (b :: es) pos) (tstM mb)) :
    RW X (.BoolOp .And (a :: b :: es) pos) (tstM fun σ h => (ma σ h).bind fun (d, h1) => (truth d h1).bind fun k => if k == true then mb σ h1 else some (d, h1)) :=
  (pw_and ha hb).imp fun σ H Q ⟨ρ, σd, h, d, h', rs, rh, e, o⟩ => by
    cases ea : ma σd h with
    | none => simp [tstM, ea] at e
    | some p =>
      obtain ⟨x, h1⟩ := p
      cases et : truth x h1 with
      | none => simp [tstM, ea, et] at e
      | some k =>
        refine ⟨ρ, σd, h, k, h1, rs, rh, by simp [tstM, ea, et], fun H1 ρ1 e1 r1 => ?_⟩
        cases k with
        | true =>
          simp [tstM, ea, et] at e
          rw [if_pos rfl]
          exact ⟨ρ1, σd, h1, d, h', rs.ext e1, r1, by simpa [tstM] using e, fun H2 ρ2 e2 r2 => o H2 ρ2 (e1.trans e2) r2⟩
        | false =>
          simp [tstM, ea, et] at e
          obtain ⟨rfl, rfl⟩ := e
          rw [if_neg Bool.false_ne_true]
          exact o H1 ρ1 e1 r1
theorem rw_or (ha : RT X a (tstM ma)) (hb : RW X (.BoolOp .Or (b :: es) pos) (tstM mb)) :
    RW X (.BoolOp .Or (a :: b :: es) pos) (tstM fun σ h => (ma σ h).bind fun (d, h1) => (truth d h1).bind fun k => if k == false then mb σ h1 else some (d, h1)) :=
  (pw_or ha hb).imp fun σ H Q ⟨ρ, σd, h, d, h', rs, rh, e, o⟩ => by
    cases ea : ma σd h with
    | none => simp [tstM, ea] at e
    | some p =>
      obtain ⟨x, h1⟩ := p
      cases et : truth x h1 with
      | none => simp [tstM, ea, et] at e
      | some k =>
        refine ⟨ρ, σd, h, k, h1, rs, rh, by simp [tstM, ea, et], fun H1 ρ1 e1 r1 => ?_⟩
        cases k with
        | false =>
          simp [tstM, ea, et] at e
          rw [if_neg Bool.false_ne_true]
          exact ⟨ρ1, σd, h1, d, h', rs.ext e1, r1, by simpa [tstM] using e, fun H2 ρ2 e2 r2 => o H2 ρ2 (e1.trans e2) r2⟩
        | true =>
          simp [tstM, ea, et] at e
          obtain ⟨rfl, rfl⟩ := e
          rw [if_pos rfl]
          exact o H1 ρ1 e1 r1
theorem re_ite {c : Expr} {mc : Sl → AH → Option (D × AH)} (hc : RT X c (tstM mc)) (ha : RE X a ma) (hb : RE X b mb) :
    RE X (.IfExp c a b pos) (fun σ h => (mc σ h).bind fun (d, h1) => (truth d h1).bind fun k => if k then ma σ h1 else mb σ h1) :=
  (pe_ifExp hc ha hb).imp fun σ H Q ⟨ρ, σd, h, d, h', rs, rh, e, o⟩ => by
    cases ea : mc σd h with
    | none => simp [ea] at e
    | some p =>
      obtain ⟨x, h1⟩ := p
      cases et : truth x h1 with
      | none => simp [ea, et] at e
      | some k =>
        refine ⟨ρ, σd, h, k, h1, rs, rh, by simp [tstM, ea, et], fun H1 ρ1 e1 r1 => ?_⟩
        cases k with
        | true =>
          simp [ea, et] at e
          rw [if_pos rfl]
          exact ⟨ρ1, σd, h1, d, h', rs.ext e1, r1, e, o.ext e1⟩
        | false =>
          simp [ea, et] at e
          rw [if_neg Bool.false_ne_true]
          exact ⟨ρ1, σd, h1, d, h', rs.ext e1, r1, e, o.ext e1⟩
/-! ### subscripts -/
theorem atI_place {xs : List V} {k : Int} {j : Nat} {v : V} (e : place xs.length k = some j) (h : xs[j]? = some v) : atI xs k = some v := by
  have e' : ixN xs.length k = some j := e
  unfold atI
  rw [e', Option.bind_some, h]
theorem ix_D : IxR X (rB X.kw index) := by
  intro value slice pins s σ H x y v u Q I rx ry ⟨ρ, h, a, b, d, rh, qa, qb, e, o⟩ hsub
  cases b with
  | int k =>
    simp only [index] at e
    cases ei : items a h with
    | none => simp [ei] at e
    | some ds =>
      cases ej : place ds.length k with
      | none => simp [ei, ej] at e
      | some j =>
        simp only [ei, ej, Option.bind_some] at e
        obtain ⟨p, vs, rfl, sq, qs⟩ := items_sq rh qa ei
        cases qb.i
        obtain ⟨w, ew, qw⟩ := qs.get e
        have ea : atI vs k = some w := atI_place (by rw [← qs.length]; exact ej) ew
        rcases sq with sq | sq
        · exact ix_seq value slice pins s σ H _ _ v u Q I rx ry (.inl ⟨p, vs, k, w, rfl, rfl, sq, ea, o.here rh qw⟩) hsub
        · exact ix_seq value slice pins s σ H _ _ v u Q I rx ry (.inr (.inl ⟨p, vs, k, w, rfl, rfl, sq, ea, o.here rh qw⟩)) hsub
  | _ => simp [index] at e
theorem re_idx (hp : plainE b = true) (ha : RE X a ma) (hb : RE X b mb) : RE X (.Subscript a b pos) (fun σ h => (ma σ h).bind fun (x, h1) => (mb σ h1).bind fun (y, h2) => (index x y h2).bind fun z => some (z, h2)) :=
  (pe_ix ix_D ha hb (plain_ix hp)).imp fun σ H Q q => tOp_imp σ H Q q
theorem ro_none : RO X none (fun _ h => some (none, h)) := po_none.imp fun σ H Q ⟨ρ, σd, h, b, h', rs, rh, e, o⟩ => by
  simp only [Option.some.injEq, Prod.mk.injEq] at e
  obtain ⟨rfl, rfl⟩ := e
  exact o H ρ (Ext.refl _ _) rh
theorem ro_some (ha : RE X a ma) : RO X (some a) (fun σ h => (ma σ h).bind fun (d, h1) => match d with | .int i => some (some i, h1) | _ => none) := (po_some ha).imp fun σ H Q ⟨ρ, σd, h, b, h', rs, rh, e, o⟩ => by
  cases ea : ma σd h with
  | none => simp [ea] at e
  | some p =>
    obtain ⟨x, h1⟩ := p
    cases x with
    | int i =>
      simp [ea] at e
      obtain ⟨rfl, rfl⟩ := e
      exact ⟨ρ, σd, h, _, h1, rs, rh, ea, fun v H1 ρ1 e1 r1 q1 => ⟨i, q1.i, o H1 ρ1 e1 r1⟩⟩
    | _ => simp [ea] at e
theorem cut_V {K : Kw} {ρ : Rho} {H : Hp} {ds : List D} {vs : List V} (q : DVs K ρ H ds vs) (lo hi : Option Int) : DVs K ρ H (cut ds lo hi) (cutV vs lo hi) := by
  have hs : ∀ n d o, bnd n d o = HT.sIx n d o := fun n d o => by cases o <;> rfl
  unfold cut cutV
  rw [q.length, hs, hs]
  exact (q.drop _).take _
variable {mo mo' : Sl → AH → Option (Option Int × AH)} {lo hi : Option Expr} {p2 : Pos}
theorem re_slc (ha : RE X a ma) (hl : RO X lo mo) (hh : RO X hi mo') :
    RE X (.Subscript a (.Slice lo hi none p2) pos) (fun σ h => (ma σ h).bind fun (x, h1) => (mo σ h1).bind fun (l, h2) => (mo' σ h2).bind fun (u, h3) => match x with
      | .tup xs => some (.tup (cut xs l u), h3)
      | _ => none) :=
  (pe_slice sl_tupA ha hl hh).imp fun σ H Q ⟨ρ, σd, h, d, h', rs, rh, e, o⟩ => by
    cases ea : ma σd h with
    | none => simp [ea] at e
    | some p =>
      obtain ⟨x, h1⟩ := p
      cases eb : mo σd h1 with
      | none => simp [ea, eb] at e
      | some p =>
        obtain ⟨l, h2⟩ := p
        cases ec : mo' σd h2 with
        | none => simp [ea, eb, ec] at e
        | some p =>
          obtain ⟨u, h3⟩ := p
          cases x with
          | tup xs =>
            simp [ea, eb, ec] at e
            obtain ⟨rfl, rfl⟩ := e
            refine ⟨ρ, σd, h, _, h1, rs, rh, ea, fun v H1 ρ1 e1 r1 q1 => ⟨ρ1, σd, h1, l, h2, rs.ext e1, r1, eb, fun H2 ρ2 e2 r2 => ⟨ρ2, σd, h2, u, h3, rs.ext (e1.trans e2), r2, ec, fun H3 ρ3 e3 r3 => ?_⟩⟩⟩
            obtain ⟨p, vs, rfl, z, y⟩ := (DV.ext (e2.trans e3) _ q1).t
            have o3 := o.ext (e1.trans (e2.trans e3))
            refine ⟨p, vs, rfl, z.sq, fun ew => o3.here r3 ?_, o3.tup r3 (cut_V y l u)⟩
            simp only [DV]
            exact ⟨p, vs, rfl, z, by have := cut_V (lo := l) (hi := u) y; rw [ew] at this; exact this⟩
          | _ => simp [ea, eb, ec] at e
theorem rf_cut (ha : RE X a ma) (hl : RO X lo mo) (hh : RO X hi mo') :
    RF X (.Subscript a (.Slice lo hi none p2) pos) (fun σ h => (ma σ h).bind fun (x, h1) => (mo σ h1).bind fun (l, h2) => (mo' σ h2).bind fun (u, h3) => (litems x h3).bind fun xs => some (cut xs l u, h3)) :=
  (pe_slice sl_list ha hl hh).imp fun σ H Q ⟨ρ, σd, h, d, h', rs, rh, e, o⟩ => by
    cases ea : ma σd h with
    | none => simp [ea] at e
    | some p =>
      obtain ⟨x, h1⟩ := p
      cases eb : mo σd h1 with
      | none => simp [ea, eb] at e
      | some p =>
        obtain ⟨l, h2⟩ := p
        cases ec : mo' σd h2 with
        | none => simp [ea, eb, ec] at e
        | some p =>
          obtain ⟨u, h3⟩ := p
          cases ei : litems x h3 with
          | none => simp [ea, eb, ec, ei] at e
          | some xs =>
            simp [ea, eb, ec, ei] at e
            obtain ⟨rfl, rfl⟩ := e
            refine ⟨ρ, σd, h, _, h1, rs, rh, ea, fun v H1 ρ1 e1 r1 q1 => ⟨ρ1, σd, h1, l, h2, rs.ext e1, r1, eb, fun H2 ρ2 e2 r2 => ⟨ρ2, σd, h2, u, h3, rs.ext (e1.trans e2), r2, ec, fun H3 ρ3 e3 r3 => ?_⟩⟩⟩
            obtain ⟨p, vs, rfl, z, y⟩ := litems_sq r3 (DV.ext (e2.trans e3) _ q1) ei
            exact ⟨p, vs, rfl, z, fun p n => o p _ H3 ρ3 (e1.trans (e2.trans e3)) r3 n (cut_V y l u)⟩
theorem rf_rev {k : Nat} {p1 p3 : Pos} (ha : RE X a ma) : RF X (.Subscript a (.Slice none none (some (.UnaryOp .USub (.Constant (.int 1) k p1) p2)) p3) pos) (fun σ h => (ma σ h).bind fun (x, h1) => (litems x h1).bind fun xs => some (xs.reverse, h1)) :=
  (pe_revL ha).imp fun σ H Q ⟨ρ, σd, h, d, h', rs, rh, e, o⟩ => by
    cases ea : ma σd h with
    | none => simp [ea] at e
    | some p =>
      obtain ⟨x, h1⟩ := p
      cases ei : litems x h1 with
      | none => simp [ea, ei] at e
      | some xs =>
        simp [ea, ei] at e
        obtain ⟨rfl, rfl⟩ := e
        refine ⟨ρ, σd, h, _, h1, rs, rh, ea, fun v H1 ρ1 e1 r1 q1 => ?_⟩
        obtain ⟨p, vs, rfl, z, y⟩ := litems_sq r1 q1 ei
        exact ⟨p, vs, rfl, z, fun p n => o p _ H1 ρ1 e1 r1 n y.reverse⟩
end
end PyD

/-! PyD4: calls, built-ins, new lists, by data. -/
namespace PyD
open PySem PySem.Spec PyProof.Rows L2

/-- a def's promise by data -/
def spD (K : Kw) (n : Nat) (φ : Fun) : Sp := fun vs H Q _ => vs.length = n ∧ ∃ ρ h ds d h', RepH K ρ H h ∧ DVs K ρ H ds vs ∧ φ ds h = some (d, h') ∧ Out K ρ H d h' Q

section
variable {X : Cx} {e a b : Expr} {es : List Expr} {pos p : Pos} {m ma mb : Sl → AH → Option (D × AH)} {ms : Sl → AH → Option (List D × AH)}
theorem re_call {k f : Nat} {fa : Addr} {fd : FuncData} {ps : List Str} {n : Nat} {φ : Fun} {x : Str} (F : FnOk X.prog X.w X.kw X.mg X.base CX0 k fa fd ps (spD X.kw n φ)) (hr : Room k X.A) (hg : Gl X x) (hm : X.mg x = some (.ref fa))
    (hk : PySem.W.keepIn X.kw (.ref fa) = true) (hb : Binds X.kw fd ps []) (ha : RA X es ms) (hp : es.all plainE = true) (hn : es.length = n) (hl : ∀ σ h ds h', ms σ h = some (ds, h') → ds.length = es.length)
    (hdb : (x == ("__debug__" : Str)) = false) (hne : es ≠ []) : RE X (.Call (.Name x p) es [] pos) (fun σ h => (ms σ h).bind fun (ds, h1) => callC φ ds h1) := by
  have go : ∀ σ H Q, tD X.kw (fun σ h => (ms σ h).bind fun (ds, h1) => callC φ ds h1) σ H Q → tCall (spD X.kw n φ) [] E0 (tDs X.kw ms) σ H Q := by
    intro σ H Q ⟨ρ, σd, h, d, h', rs, rh, e, o⟩
    cases ea : ms σd h with
    | none => simp [ea] at e
    | some p =>
      obtain ⟨ds, h1⟩ := p
      simp only [ea, Option.bind_some] at e
      refine ⟨ρ, σd, h, ds, h1, rs, rh, ea, fun vs H1 ρ1 e1 r1 q1 => ⟨?_, callC_ok r1 ?_ e (o.ext e1)⟩⟩
      · rw [List.append_nil, ← q1.length, hl _ _ _ _ ea, hn]
      · rw [List.append_nil]; exact q1
  cases es with
  | nil => exact absurd rfl hne
  | cons e0 er =>
    rw [List.all_cons, Bool.and_eq_true] at hp
    exact (pe_call F hr hg hm hk hb .nil pass0 ha hdb (star_cons hp.1 _ _) (star_any _ _ hp.2)).imp go
theorem re_call0 {k f : Nat} {fa : Addr} {fd : FuncData} {ps : List Str} {φ : Fun} {x : Str} (F : FnOk X.prog X.w X.kw X.mg X.base CX0 k fa fd ps (spD X.kw 0 φ)) (hr : Room k X.A) (hg : Gl X x) (hm : X.mg x = some (.ref fa))
    (hk : PySem.W.keepIn X.kw (.ref fa) = true) (hb : Binds X.kw fd ps []) (hdb : (x == ("__debug__" : Str)) = false) : RE X (.Call (.Name x p) [] [] pos) (fun σ h => callC φ [] h) :=
  (pe_call0 (p := p) (pos := pos) F hr hg hm hk hb .nil pass0 hdb).imp fun σ H Q ⟨ρ, σd, h, d, h', rs, rh, e, o⟩ => ⟨rfl, callC_ok rh .nil e o⟩

/-- positional values, then keywords in the parameters' order -/
def gJ {α : Type} (j : Nat) (us ws : List α) : List α := if us.length = j then us ++ ws else []
theorem gJ_rel {j : Nat} {vs zs : List V} {us ws : List Value} (r : Vals vs us) (q : Vals zs ws) : Vals (gJ j vs zs) (gJ j us ws) := by
  unfold gJ
  rw [r.length]
  split
  · exact r.append q
  · exact .nil
theorem re_callK {k f j : Nat} {fa : Addr} {fd : FuncData} {ps ks : List Str} {n : Nat} {φ : Fun} {x : Str} {kws : List Keyword} {mk : Sl → AH → Option (List D × AH)} (F : FnOk X.prog X.w X.kw X.mg X.base CX0 k fa fd ps (spD X.kw n φ)) (hr : Room k X.A) (hg : Gl X x) (hm : X.mg x = some (.ref fa))
    (hk : PySem.W.keepIn X.kw (.ref fa) = true) (hb : KBinds X.kw fd ps ks (gJ j) (gJ j)) (ha : RA X es ms) (hkw : PK X kws (tDs X.kw mk)) (hp : es.all plainE = true) (hn : es.length + kws.length = n) (hj : es.length = j) (hl : ∀ σ h ds h', ms σ h = some (ds, h') → ds.length = es.length) (hl2 : ∀ σ h ds h', mk σ h = some (ds, h') → ds.length = kws.length)
    (hdb : (x == ("__debug__" : Str)) = false) (hne : es ≠ []) (hsome : kws.all (fun k => k.arg.isSome) = true) (hks : kws.filterMap (·.arg) = ks) : RE X (.Call (.Name x p) es kws pos) (fun σ h => (ms σ h).bind fun (ds, h1) => (mk σ h1).bind fun (es, h2) => callC φ (ds ++ es) h2) := by
  have go : ∀ σ H Q, tD X.kw (fun σ h => (ms σ h).bind fun (ds, h1) => (mk σ h1).bind fun (es, h2) => callC φ (ds ++ es) h2) σ H Q → tCallK (spD X.kw n φ) (gJ j) E0 (tDs X.kw ms) (tDs X.kw mk) σ H Q := by
    intro σ H Q ⟨ρ, σd, h, d, h', rs, rh, e, o⟩
    cases ea : ms σd h with
    | none => simp [ea] at e
    | some p =>
      obtain ⟨ds, h1⟩ := p
      cases eb : mk σd h1 with
      | none => simp [ea, eb] at e
      | some p =>
        obtain ⟨ds2, h2⟩ := p
        simp only [ea, eb, Option.bind_some] at e
        refine ⟨ρ, σd, h, ds, h1, rs, rh, ea, fun vs H1 ρ1 e1 r1 q1 => ⟨ρ1, σd, h1, ds2, h2, rs.ext e1, r1, eb, fun zs H2 ρ2 e2 r2 q2 => ?_⟩⟩
        have l1 : vs.length = j := by rw [← q1.length, hl _ _ _ _ ea, hj]
        have eg : gJ j vs zs = vs ++ zs := by unfold gJ; rw [if_pos l1]
        show spD X.kw n φ (gJ j vs zs) H2 Q E0
        rw [eg]
        refine ⟨?_, callC_ok r2 ((DVs.ext e2 _ q1).append q2) e (o.ext (e1.trans e2))⟩
        rw [List.length_append, ← q1.length, ← q2.length, hl _ _ _ _ ea, hl2 _ _ _ _ eb, hn]
  have nm : ∀ l : List Keyword, (backToKw pos (keywordEach l X.env)).map (·.1) = l.map (·.arg) := by
    intro l
    induction l with
    | nil => rfl
    | cons a r ih =>
      obtain ⟨n, v, q⟩ := a
      have ih' : ((backToKw pos (keywordEach r X.env)).map (·.1)) = r.map (·.arg) := ih
      show n :: ((backToKw pos (keywordEach r X.env)).map (·.1)) = n :: r.map (·.arg)
      rw [ih']
  have h1 : (backToKw pos (keywordEach kws X.env)).all (·.1.isSome) = true := by
    have : (backToKw pos (keywordEach kws X.env)).all (·.1.isSome) = ((backToKw pos (keywordEach kws X.env)).map (·.1)).all (·.isSome) := by rw [List.all_map]; rfl
    rw [this, nm, List.all_map]; exact hsome
  have h2 : (backToKw pos (keywordEach kws X.env)).filterMap (·.1) = ks := by
    have : (backToKw pos (keywordEach kws X.env)).filterMap (·.1) = ((backToKw pos (keywordEach kws X.env)).map (·.1)).filterMap id := by rw [List.filterMap_map]; rfl
    rw [this, nm, List.filterMap_map]; exact hks
  have h3 : (backToKw pos (keywordEach kws X.env)).any (·.1.isNone) = false := by
    rw [List.any_eq_false]
    intro a ha
    have := List.all_eq_true.mp h1 a ha
    cases q : a.1 <;> simp_all
  cases es with
  | nil => exact absurd rfl hne
  | cons e0 er =>
    have hp0 := hp
    rw [List.all_cons, Bool.and_eq_true] at hp
    exact (pe_callK F hr hg hm hk hb pass0 ha hkw h1 h2 hdb (star_cons hp.1 _ _) (by rw [star_any _ _ hp0, h3]; rfl)).imp go
theorem re_callD {k f : Nat} {fa : Addr} {fd : FuncData} {ps : List Str} {n : Nat} {φ : Fun} {x : Str} {dfl : List D} {dvs : List V} {dus : List Value} (F : FnOk X.prog X.w X.kw X.mg X.base CX0 k fa fd ps (spD X.kw n φ)) (hr : Room k X.A) (hg : Gl X x) (hm : X.mg x = some (.ref fa))
    (hk : PySem.W.keepIn X.kw (.ref fa) = true) (hb : Binds X.kw fd ps dus) (hv : Vals dvs dus) (hd : ∀ ρ H, DVs X.kw ρ H dfl dvs) (ha : RA X es ms) (hp : es.all plainE = true) (hn : es.length + dfl.length = n) (hl : ∀ σ h ds h', ms σ h = some (ds, h') → ds.length = es.length)
    (hdb : (x == ("__debug__" : Str)) = false) (hne : es ≠ []) : RE X (.Call (.Name x p) es [] pos) (fun σ h => (ms σ h).bind fun (ds, h1) => callC φ (ds ++ dfl) h1) := by
  have go : ∀ σ H Q, tD X.kw (fun σ h => (ms σ h).bind fun (ds, h1) => callC φ (ds ++ dfl) h1) σ H Q → tCall (spD X.kw n φ) dvs E0 (tDs X.kw ms) σ H Q := by
    intro σ H Q ⟨ρ, σd, h, d, h', rs, rh, e, o⟩
    cases ea : ms σd h with
    | none => simp [ea] at e
    | some p =>
      obtain ⟨ds, h1⟩ := p
      simp only [ea, Option.bind_some] at e
      refine ⟨ρ, σd, h, ds, h1, rs, rh, ea, fun vs H1 ρ1 e1 r1 q1 => ⟨?_, callC_ok r1 (q1.append (hd _ _)) e (o.ext e1)⟩⟩
      rw [List.length_append, ← q1.length, hl _ _ _ _ ea, ← (hd ρ1 H1).length, hn]
  cases es with
  | nil => exact absurd rfl hne
  | cons e0 er =>
    rw [List.all_cons, Bool.and_eq_true] at hp
    exact (pe_call F hr hg hm hk hb hv pass0 ha hdb (star_cons hp.1 _ _) (star_any _ _ hp.2)).imp go

/-! ### built-ins -/
def rL (K : Kw) (g : List D → AH → Option D) : List V → Hp → VK → Prop := fun vs H Q =>
  ∃ ρ h ds d, RepH K ρ H h ∧ DVs K ρ H ds vs ∧ g ds h = some d ∧ Out K ρ H d h Q
theorem ds1 {K : Kw} {ρ : Rho} {H : Hp} {d : D} {vs : List V} (q : DVs K ρ H [d] vs) : ∃ v, vs = [v] ∧ DV K ρ H d v := by
  simp only [DVs] at q
  obtain ⟨v, r, rfl, q1, rfl⟩ := q
  exact ⟨v, rfl, q1⟩
theorem ds2 {K : Kw} {ρ : Rho} {H : Hp} {d d' : D} {vs : List V} (q : DVs K ρ H [d, d'] vs) : ∃ v v', vs = [v, v'] ∧ DV K ρ H d v ∧ DV K ρ H d' v' := by
  simp only [DVs] at q
  obtain ⟨v, r, rfl, q1, v', r', rfl, q2, rfl⟩ := q
  exact ⟨v, v', rfl, q1, q2⟩
theorem c_len : CallR X (.builtin "len") (rL X.kw (bltf .len)) := by
  intro pins s σ H xs us Q I r ⟨ρ, h, ds, d, rh, qs, e, o⟩
  match ds, e, qs with
  | [a], e, qs =>
    simp only [bltf] at e
    obtain ⟨v, rfl, q⟩ := ds1 qs
    cases ei : items a h with
    | none => simp [ei] at e
    | some xs =>
      simp only [ei, Option.map_some, Option.some.injEq] at e; subst e
      obtain ⟨p, vs, rfl, sq, qs'⟩ := items_sq rh q ei
      exact call_len_seq pins s σ H _ us Q I r ⟨p, vs, rfl, sq, by rw [← qs'.length]; exact o.here rh (DV.int' _)⟩
  | [], e, _ => simp [bltf] at e
  | _ :: _ :: _, e, _ => simp [bltf] at e
theorem c_abs : CallR X (.builtin "abs") (rL X.kw (bltf .abs)) := by
  intro pins s σ H xs us Q I r ⟨ρ, h, ds, d, rh, qs, e, o⟩
  match ds, e, qs with
  | [.int i], e, qs =>
    simp only [bltf, Option.some.injEq] at e; subst e
    obtain ⟨v, rfl, q⟩ := ds1 qs
    cases q.i
    exact call_abs pins s σ H _ us Q I r ⟨i, rfl, o.here rh (DV.int' _)⟩
  | [], e, _ => simp [bltf] at e
  | [.non], e, _ => simp [bltf] at e
  | [.bl _], e, _ => simp [bltf] at e
  | [.str _], e, _ => simp [bltf] at e
  | [.tup _], e, _ => simp [bltf] at e
  | [.lst _], e, _ => simp [bltf] at e
  | [.rol _], e, _ => simp [bltf] at e
  | [.ref _], e, _ => simp [bltf] at e
  | _ :: _ :: _, e, _ => simp [bltf] at e
theorem c_int : CallR X (.type "int") (rL X.kw (bltf .int)) := by
  intro pins s σ H xs us Q I r ⟨ρ, h, ds, d, rh, qs, e, o⟩
  match ds, e, qs with
  | [.int i], e, qs =>
    simp only [bltf, Option.some.injEq] at e; subst e
    obtain ⟨v, rfl, q⟩ := ds1 qs
    cases q.i
    exact call_int1 pins s σ H _ us Q I r (.inl ⟨i, rfl, o.here rh (DV.int' _)⟩)
  | [.bl i], e, qs =>
    simp only [bltf, Option.some.injEq] at e; subst e
    obtain ⟨v, rfl, q⟩ := ds1 qs
    cases q.b
    exact call_int1 pins s σ H _ us Q I r (.inr ⟨i, rfl, o.here rh (DV.int' _)⟩)
  | [], e, _ => simp [bltf] at e
  | [.non], e, _ => simp [bltf] at e
  | [.str _], e, _ => simp [bltf] at e
  | [.tup _], e, _ => simp [bltf] at e
  | [.lst _], e, _ => simp [bltf] at e
  | [.rol _], e, _ => simp [bltf] at e
  | [.ref _], e, _ => simp [bltf] at e
  | _ :: _ :: _, e, _ => simp [bltf] at e
theorem c_bool : CallR X (.type "bool") (rL X.kw (bltf .bool)) := by
  intro pins s σ H xs us Q I r ⟨ρ, h, ds, d, rh, qs, e, o⟩
  match ds, e, qs with
  | [.bl i], e, qs =>
    simp only [bltf, Option.some.injEq] at e; subst e
    obtain ⟨v, rfl, q⟩ := ds1 qs
    cases q.b
    exact call_bool1 pins s σ H _ us Q I r (.inr ⟨i, rfl, o.here rh (DV.bl' _)⟩)
  | [], e, _ => simp [bltf] at e
  | [.int _], e, _ => simp [bltf] at e
  | [.non], e, _ => simp [bltf] at e
  | [.str _], e, _ => simp [bltf] at e
  | [.tup _], e, _ => simp [bltf] at e
  | [.lst _], e, _ => simp [bltf] at e
  | [.rol _], e, _ => simp [bltf] at e
  | [.ref _], e, _ => simp [bltf] at e
  | _ :: _ :: _, e, _ => simp [bltf] at e
theorem c_str : CallR X (.type "str") (rL X.kw (bltf .str)) := by
  intro pins s σ H xs us Q I r ⟨ρ, h, ds, d, rh, qs, e, o⟩
  match ds, e, qs with
  | [.int i], e, qs =>
    simp only [bltf] at e
    split at e
    case isFalse => cases e
    rename_i hz
    simp only [Option.some.injEq] at e; subst e
    obtain ⟨v, rfl, q⟩ := ds1 qs
    cases q.i
    exact call_str_int pins s σ H _ us Q I r ⟨i, rfl, hz, o.here rh (DV.str' _)⟩
  | [], e, _ => simp [bltf] at e
  | [.non], e, _ => simp [bltf] at e
  | [.bl _], e, _ => simp [bltf] at e
  | [.str _], e, _ => simp [bltf] at e
  | [.tup _], e, _ => simp [bltf] at e
  | [.lst _], e, _ => simp [bltf] at e
  | [.rol _], e, _ => simp [bltf] at e
  | [.ref _], e, _ => simp [bltf] at e
  | _ :: _ :: _, e, _ => simp [bltf] at e
theorem c_tuple : CallR X (.type "tuple") (rL X.kw (bltf .tuple)) := by
  intro pins s σ H xs us Q I r ⟨ρ, h, ds, d, rh, qs, e, o⟩
  match ds, e, qs with
  | [a], e, qs =>
    simp only [bltf] at e
    obtain ⟨v, rfl, q⟩ := ds1 qs
    cases ei : items a h with
    | none => simp [ei] at e
    | some xs =>
      simp only [ei, Option.map_some, Option.some.injEq] at e; subst e
      obtain ⟨u, rfl, ru⟩ := vals1 r
      cases a with
      | tup ys =>
        simp only [items, Option.some.injEq] at ei; subst ei
        obtain ⟨p, vs, rfl, z, y⟩ := q.t
        exact rl_tuple pins s σ H _ u Q I ru (.inr ⟨p, vs, rfl, z.sq, o.here rh q⟩)
      | lst ys =>
        obtain ⟨p, vs, rfl, sq, qs'⟩ := litems_sq (d := .lst ys) rh q (by simpa only [items, litems] using ei)
        exact rl_tuple pins s σ H _ u Q I ru (.inl ⟨p, vs, rfl, sq, o.tup rh qs'⟩)
      | rol ys =>
        obtain ⟨p, vs, rfl, sq, qs'⟩ := litems_sq (d := .rol ys) rh q (by simpa only [items, litems] using ei)
        exact rl_tuple pins s σ H _ u Q I ru (.inl ⟨p, vs, rfl, sq, o.tup rh qs'⟩)
      | ref ys =>
        obtain ⟨p, vs, rfl, sq, qs'⟩ := litems_sq (d := .ref ys) rh q (by simpa only [items, litems] using ei)
        exact rl_tuple pins s σ H _ u Q I ru (.inl ⟨p, vs, rfl, sq, o.tup rh qs'⟩)
      | _ => simp [items] at ei
  | [], e, _ => simp [bltf] at e
  | _ :: _ :: _, e, _ => simp [bltf] at e
theorem c_min (hc : X.calm = true) : CallR X (.builtin "min") (rL X.kw (bltf .min)) := by
  intro pins s σ H xs us Q I r ⟨ρ, h, ds, d, rh, qs, e, o⟩
  have : ∃ i j, ds = [.int i, .int j] ∧ d = .int (if j < i then j else i) := by
    rcases ds with _ | ⟨a, _ | ⟨b, _ | ⟨c, r⟩⟩⟩
    · simp [bltf] at e
    · cases a <;> simp [bltf] at e
    · cases a <;> cases b <;> first | (simp only [bltf, Option.some.injEq] at e; exact ⟨_, _, rfl, e.symm⟩) | (simp [bltf] at e; done)
    · cases a <;> cases b <;> simp [bltf] at e
  obtain ⟨i, j, rfl, rfl⟩ := this
  obtain ⟨v, v', rfl, q, q'⟩ := ds2 qs
  cases q.i; cases q'.i
  exact call_min2 hc pins s σ H _ us Q I r ⟨i, j, rfl, o.here rh (DV.int' _)⟩
theorem c_max (hc : X.calm = true) : CallR X (.builtin "max") (rL X.kw (bltf .max)) := by
  intro pins s σ H xs us Q I r ⟨ρ, h, ds, d, rh, qs, e, o⟩
  have : ∃ i j, ds = [.int i, .int j] ∧ d = .int (if j > i then j else i) := by
    rcases ds with _ | ⟨a, _ | ⟨b, _ | ⟨c, r⟩⟩⟩
    · simp [bltf] at e
    · cases a <;> simp [bltf] at e
    · cases a <;> cases b <;> first | (simp only [bltf, Option.some.injEq] at e; exact ⟨_, _, rfl, e.symm⟩) | (simp [bltf] at e; done)
    · cases a <;> cases b <;> simp [bltf] at e
  obtain ⟨i, j, rfl, rfl⟩ := this
  obtain ⟨v, v', rfl, q, q'⟩ := ds2 qs
  cases q.i; cases q'.i
  exact call_max2 hc pins s σ H _ us Q I r ⟨i, j, rfl, o.here rh (DV.int' _)⟩
theorem allBool_map : ∀ {xs : List D} {bs : List Bool}, allBool xs = some bs → xs = bs.map D.bl
  | [], bs, e => by simp [allBool] at e; subst e; rfl
  | .bl b :: r, bs, e => by
    simp only [allBool] at e
    cases er : allBool r with
    | none => simp [er] at e
    | some cs =>
      simp [er] at e; subst e
      rw [allBool_map er]; rfl
  | .non :: _, _, e => by simp [allBool] at e
  | .int _ :: _, _, e => by simp [allBool] at e
  | .str _ :: _, _, e => by simp [allBool] at e
  | .tup _ :: _, _, e => by simp [allBool] at e
  | .lst _ :: _, _, e => by simp [allBool] at e
  | .rol _ :: _, _, e => by simp [allBool] at e
  | .ref _ :: _, _, e => by simp [allBool] at e
theorem bls_V {K : Kw} {ρ : Rho} {H : Hp} : ∀ {bs : List Bool} {vs : List V}, DVs K ρ H (bs.map D.bl) vs → vs = bs.map V.bl
  | [], _, q => by simpa only [List.map_nil, DVs] using q
  | b :: bs, _, q => by
    simp only [List.map_cons, DVs] at q
    obtain ⟨v, r, rfl, q1, q2⟩ := q
    rw [q1.b, bls_V q2]; rfl
theorem walk_bools {prog : Program} {w : World} {A : Around} {E : Value → Shared → Prop} {s : Shared} {t : Addr} {its : Array Value} {Q : Value → Shared → Prop} (ht : s.heap.IsTuple t its)
    (h : ∀ s2 : Shared, s2 = { s with heap := s.heap.push { cls := .type "tuple_iterator", data := .fields #[.ref t, .int 0 0] } } → (s2.heap.IsTupleIter s.heap.objs.size t 0 ∧ s2.heap.IsTuple t its) → t ≠ s.heap.objs.size → Q (.ref s.heap.objs.size) s2) : wpAny (model prog w) A (pyIter (.ref t)) Q E s := by
  have below : t < s.heap.objs.size := by obtain ⟨_, e, _⟩ := ht; exact Heap.lt_size e
  exact wpAny_pyIter_tuple ht (h _ rfl ⟨⟨_, Heap.get?_push_size _ rfl, rfl, rfl⟩, ht.push _⟩ (Nat.ne_of_lt below))
theorem allT_ok (calm : X.calm = true) : CallR X (.builtin "all") (fun zs H Q => ∃ (t : Addr) (ys : List Bool), zs = [V.ref t] ∧ SqT X.K H t (ys.map V.bl) ∧ Q (.bl (ys.all id)) H) := by
  intro pins s σ H zs us Q I rel ⟨t, ys, ez, sq, want⟩
  subst ez
  obtain ⟨vals, rv, tup, _⟩ := I.tuple sq
  rw [Vals.ref1 rel]
  have eb := rv.bls
  refine call_all_walk (walk_bools tup fun s2 es st apart => ?_)
  subst es
  refine ⟨_, _, _, _, _, _, _, rfl, Walks.tuple (A := X.A.in1) (I.ok.hd calm) _ t apart vals.toArray, st, truth_bools eb, fun h' tk same => ?_⟩
  refine ⟨.bl _, H, I.kept fun b o eo => same b o (fun mem => ?_) (Heap.get?_push_of_some _ eo), ?_, want⟩
  · rcases List.mem_cons.mp mem with e1 | mem
    · exact absurd (e1 ▸ Heap.lt_size eo) (Nat.lt_irrefl _)
    · cases mem
  · show Value.bool _ = Value.bool _
    rw [← L2.all_range, eb, List.size_toArray, List.length_map]
theorem anyT_ok (calm : X.calm = true) : CallR X (.builtin "any") (fun zs H Q => ∃ (t : Addr) (ys : List Bool), zs = [V.ref t] ∧ SqT X.K H t (ys.map V.bl) ∧ Q (.bl (ys.any id)) H) := by
  intro pins s σ H zs us Q I rel ⟨t, ys, ez, sq, want⟩
  subst ez
  obtain ⟨vals, rv, tup, _⟩ := I.tuple sq
  rw [Vals.ref1 rel]
  have eb := rv.bls
  refine call_any_walk (walk_bools tup fun s2 es st apart => ?_)
  subst es
  refine ⟨_, _, _, _, _, _, _, rfl, Walks.tuple (A := X.A.in1) (I.ok.hd calm) _ t apart vals.toArray, st, truth_bools eb, fun h' tk same => ?_⟩
  refine ⟨.bl _, H, I.kept fun b o eo => same b o (fun mem => ?_) (Heap.get?_push_of_some _ eo), ?_, want⟩
  · rcases List.mem_cons.mp mem with e1 | mem
    · exact absurd (e1 ▸ Heap.lt_size eo) (Nat.lt_irrefl _)
    · cases mem
  · show Value.bool _ = Value.bool _
    rw [← L2.any_range, eb, List.size_toArray, List.length_map]
theorem c_all (hc : X.calm = true) : CallR X (.builtin "all") (rL X.kw (bltf .all)) := by
  intro pins s σ H xs us Q I r ⟨ρ, h, ds, d, rh, qs, e, o⟩
  match ds, e, qs with
  | [a], e, qs =>
    simp only [bltf] at e
    obtain ⟨v, rfl, q⟩ := ds1 qs
    cases ei : items a h with
    | none => simp [ei] at e
    | some xs =>
      cases eb : allBool xs with
      | none => simp [ei, eb] at e
      | some bs =>
        simp [ei, eb] at e; subst e
        obtain ⟨p, vs, rfl, sq, qs'⟩ := items_sq rh q ei
        rw [allBool_map eb] at qs'
        rw [bls_V qs'] at sq
        have want : Q (.bl (bs.all id)) H := by
          have := o.here rh (DV.bl' _)
          simpa using this
        rcases sq with sq | sq
        · exact cr_all hc pins s σ H _ us Q I r ⟨p, bs, rfl, sq, want⟩
        · exact allT_ok hc pins s σ H _ us Q I r ⟨p, bs, rfl, sq, want⟩
  | [], e, _ => simp [bltf] at e
  | _ :: _ :: _, e, _ => simp [bltf] at e
theorem c_any (hc : X.calm = true) : CallR X (.builtin "any") (rL X.kw (bltf .any)) := by
  intro pins s σ H xs us Q I r ⟨ρ, h, ds, d, rh, qs, e, o⟩
  match ds, e, qs with
  | [a], e, qs =>
    simp only [bltf] at e
    obtain ⟨v, rfl, q⟩ := ds1 qs
    cases ei : items a h with
    | none => simp [ei] at e
    | some xs =>
      cases eb : allBool xs with
      | none => simp [ei, eb] at e
      | some bs =>
        simp [ei, eb] at e; subst e
        obtain ⟨p, vs, rfl, sq, qs'⟩ := items_sq rh q ei
        rw [allBool_map eb] at qs'
        rw [bls_V qs'] at sq
        have want : Q (.bl (bs.any id)) H := by
          have := o.here rh (DV.bl' _)
          simpa using this
        rcases sq with sq | sq
        · exact cr_any hc pins s σ H _ us Q I r ⟨p, bs, rfl, sq, want⟩
        · exact anyT_ok hc pins s σ H _ us Q I r ⟨p, bs, rfl, sq, want⟩
  | [], e, _ => simp [bltf] at e
  | _ :: _ :: _, e, _ => simp [bltf] at e
/-- a built-in's name, and whether it is a type -/
theorem allInt_map : ∀ {xs : List D} {ns : List Int}, allInt xs = some ns → xs = ns.map D.int
  | [], ns, e => by simp [allInt] at e; subst e; rfl
  | .int i :: r, ns, e => by
    simp only [allInt, Option.map_eq_some_iff] at e
    obtain ⟨l, e1, rfl⟩ := e
    rw [allInt_map e1]; rfl
  | .non :: _, _, e => by simp [allInt] at e
  | .bl _ :: _, _, e => by simp [allInt] at e
  | .str _ :: _, _, e => by simp [allInt] at e
  | .tup _ :: _, _, e => by simp [allInt] at e
  | .lst _ :: _, _, e => by simp [allInt] at e
  | .rol _ :: _, _, e => by simp [allInt] at e
  | .ref _ :: _, _, e => by simp [allInt] at e
theorem c_sum (hc : X.calm = true) : CallR X (.builtin "sum") (rL X.kw (bltf .sum)) := by
  intro pins s σ H xs us Q I r ⟨ρ, h, ds, d, rh, qs, e, o⟩
  match ds, e, qs with
  | [a], e, qs =>
    simp only [bltf] at e
    obtain ⟨v, rfl, q⟩ := ds1 qs
    cases ei : litems a h with
    | none => simp [ei] at e
    | some xs =>
      cases eb : allInt xs with
      | none => simp [ei, eb] at e
      | some ns =>
        simp [ei, eb] at e; subst e
        obtain ⟨p, vs, rfl, sq, qs'⟩ := litems_sq rh q ei
        rw [allInt_map eb] at qs'
        rw [qs'.ints] at sq
        exact cr_sum hc pins s σ H _ us Q I r ⟨p, ns, rfl, sq, o.here rh (DV.int' _)⟩
  | [], e, _ => simp [bltf] at e
  | _ :: _ :: _, e, _ => simp [bltf] at e
def bltN : Blt → Str × String × Bool
  | .len => ("len", "len", false) | .abs => ("abs", "abs", false) | .int => ("int", "int", true) | .min => ("min", "min", false) | .max => ("max", "max", false) | .str => ("str", "str", true)
  | .tuple => ("tuple", "tuple", true) | .all => ("all", "all", false) | .any => ("any", "any", false) | .bool => ("bool", "bool", true) | .sum => ("sum", "sum", false)
theorem tCB_imp {g : List D → AH → Option D} (σ : L2.St) (H : Hp) (Q : VK) (q : tD X.kw (fun σ h => (ms σ h).bind fun (ds, h1) => (g ds h1).bind fun z => some (z, h1)) σ H Q) : tCB (rL X.kw g) (tDs X.kw ms) σ H Q := by
  obtain ⟨ρ, σd, h, d, h', rs, rh, e, o⟩ := q
  cases ea : ms σd h with
  | none => simp [ea] at e
  | some p =>
    obtain ⟨ds, h1⟩ := p
    cases eg : g ds h1 with
    | none => simp [ea, eg] at e
    | some z =>
      simp [ea, eg] at e
      obtain ⟨rfl, rfl⟩ := e
      exact ⟨ρ, σd, h, ds, h1, rs, rh, ea, fun vs H1 ρ1 e1 r1 q1 => ⟨ρ1, h1, ds, z, r1, q1, eg, o.ext e1⟩⟩
theorem re_blt {f : Blt} (hc : X.calm = true) (hg : Gl X (bltN f).1) (hm : X.mg (bltN f).1 = none) (ha : RA X (e :: es) ms) (hp : plainE e = true) (hps : es.all plainE = true) :
    RE X (.Call (.Name (bltN f).1 p) (e :: es) [] pos) (fun σ h => (ms σ h).bind fun (ds, h1) => (bltf f ds h1).bind fun z => some (z, h1)) := by
  have s1 := star_cons hp es X.env
  have s2 := star_any pos X.env hps
  cases f with
  | len => exact (pe_callB c_len hg hm PySem.boot_len ha (by decide) (by decide) s1 s2).imp fun σ H Q q => tCB_imp σ H Q q
  | abs => exact (pe_callB c_abs hg hm (by decide +kernel) ha (by decide) (by decide) s1 s2).imp fun σ H Q q => tCB_imp σ H Q q
  | int => exact (pe_callTy c_int hg hm (by decide +kernel) ha (by decide) (by decide) s1 s2).imp fun σ H Q q => tCB_imp σ H Q q
  | min => exact (pe_callB (c_min hc) hg hm (by decide +kernel) ha (by decide) (by decide) s1 s2).imp fun σ H Q q => tCB_imp σ H Q q
  | max => exact (pe_callB (c_max hc) hg hm (by decide +kernel) ha (by decide) (by decide) s1 s2).imp fun σ H Q q => tCB_imp σ H Q q
  | str => exact (pe_callTy c_str hg hm (by decide +kernel) ha (by decide) (by decide) s1 s2).imp fun σ H Q q => tCB_imp σ H Q q
  | tuple => exact (pe_callTy c_tuple hg hm (by decide +kernel) ha (by decide) (by decide) s1 s2).imp fun σ H Q q => tCB_imp σ H Q q
  | all => exact (pe_callB (c_all hc) hg hm (by decide +kernel) ha (by decide) (by decide) s1 s2).imp fun σ H Q q => tCB_imp σ H Q q
  | any => exact (pe_callB (c_any hc) hg hm (by decide +kernel) ha (by decide) (by decide) s1 s2).imp fun σ H Q q => tCB_imp σ H Q q
  | sum => exact (pe_callB (c_sum hc) hg hm (by decide +kernel) ha (by decide) (by decide) s1 s2).imp fun σ H Q q => tCB_imp σ H Q q
  | bool => exact (pe_callTy c_bool hg hm (by decide +kernel) ha (by decide) (by decide) s1 s2).imp fun σ H Q q => tCB_imp σ H Q q
end
end PyD

/-! PyD5: isinstance, new lists, append, what is walked, comprehensions, by data. -/
namespace PyD
open PySem PySem.Spec PyProof.Rows L2

def tyN : Ty → String
  | .int => "int" | .str => "str" | .tuple => "tuple" | .bool => "bool" | .list => "list"
theorem boot_ty (t : Ty) : bootBuiltins (Str.ofString (tyN t)) = some (.type (tyN t)) := by
  cases t <;> decide +kernel
section
variable {X : Cx} {e a b : Expr} {es : List Expr} {pos p : Pos} {m ma mb : Sl → AH → Option (D × AH)} {ms : Sl → AH → Option (List D × AH)}
theorem isTy_V {K : Kw} {ρ : Rho} {H : Hp} {h : AH} {d : D} {v : V} (rh : RepH K ρ H h) (q : DV K ρ H d v) (t : Ty) {k : Bool} (e : isTyH d t h = some k) : ∃ T, TyX K H v T ∧ PySem.W.kitOne K T (.type (tyN t)) = some k := by
  have base : (∀ n, d ≠ .ref n) → isTy d t = k := fun hn => by
    cases d <;> first | (simpa [isTyH] using e) | exact absurd rfl (hn _)
  cases d with
  | non => cases q.n; exact ⟨_, .base .non, by rw [← base (fun n z => nomatch z)]; cases t <;> rfl⟩
  | bl c => cases q.b; exact ⟨_, .base (.bl c), by rw [← base (fun n z => nomatch z)]; cases t <;> rfl⟩
  | int c => cases q.i; exact ⟨_, .base (.int c), by rw [← base (fun n z => nomatch z)]; cases t <;> rfl⟩
  | str c => cases q.s; exact ⟨_, .base (.str _), by rw [← base (fun n z => nomatch z)]; cases t <;> rfl⟩
  | tup ds =>
    obtain ⟨a, vs, rfl, z, y⟩ := q.t
    refine ⟨.type "tuple", ?_, by rw [← base (fun n z => nomatch z)]; cases t <;> rfl⟩
    rcases z with ⟨z | ⟨o, z⟩, _⟩ | ⟨o, its, n, z, c, _⟩
    · exact .base (.tup z)
    · exact .fTuple z
    · exact .kTuple z c
  | lst ds =>
    obtain ⟨a, vs, rfl, z, y⟩ := q.l
    exact ⟨_, .base (.lst z.1), by rw [← base (fun n z => nomatch z)]; cases t <;> rfl⟩
  | rol ds =>
    obtain ⟨a, vs, rfl, z, y⟩ := q.o
    refine ⟨.type "list", ?_, by rw [← base (fun n z => nomatch z)]; cases t <;> rfl⟩
    rcases z with ⟨z | ⟨o, z⟩, _⟩ | ⟨o, its, n, z, c, _⟩
    · exact .base (.lst z)
    · exact .base (.frz z)
    · exact .kList z c
  | ref n =>
    obtain ⟨a, rfl, z⟩ := q.r
    obtain ⟨o, e1, ok⟩ := rh.at' z
    simp only [isTyH, e1] at e
    cases o with
    | dct kvs => simp at e
    | ids ks => simp at e
    | lst xs =>
      obtain ⟨vs, e2, y⟩ := ok
      simp only [Option.some.injEq] at e
      exact ⟨_, .base (.lst e2), by rw [← e]; cases t <;> rfl⟩
theorem re_isi {t : Ty} {p1 p2 : Pos} (hg : Gl X "isinstance") (hm : X.mg "isinstance" = none) (hg2 : Gl X (Str.ofString (tyN t))) (hm2 : X.mg (Str.ofString (tyN t)) = none) (ha : RE X a ma) (hp : plainE a = true) :
    RE X (.Call (.Name "isinstance" p) [a, .Name (Str.ofString (tyN t)) p1] [] pos) (fun σ h => (ma σ h).bind fun (x, h1) => (isTyH x t h1).bind fun k => some (.bl k, h1)) := by
  have ht : PE X (.Name (Str.ofString (tyN t)) p1) (tC (.ty (tyN t))) := pe_bltn hg2 hm2 (boot_ty t) rfl (by cases t <;> decide) (by cases t <;> decide)
  refine (pe_callB call_isi hg hm PyProof.Rows.boot_isinstance (pa_cons ha (pa_cons ht pa_nil rfl) (star_cons hp _ _)) (by decide) (by decide) (star_cons hp _ _) (star_any _ _ (by rfl))).imp fun σ H Q ⟨ρ, σd, h, d, h', rs, rh, e, o⟩ => ?_
  cases ea : ma σd h with
  | none => simp [ea] at e
  | some p =>
    obtain ⟨x, h1⟩ := p
    simp only [ea, Option.bind_some, Option.bind_eq_some_iff, Option.some.injEq, Prod.mk.injEq] at e
    obtain ⟨k, ek, rfl, rfl⟩ := e
    refine ⟨ρ, σd, h, x, h1, rs, rh, ea, fun v H1 ρ1 e1 r1 q1 => ?_⟩
    obtain ⟨T, h2, h3⟩ := isTy_V r1 q1 t ek
    exact ⟨v, .ty (tyN t), T, _, _, rfl, .ty _, h2, h3, (o.ext e1).here r1 (DV.bl' _)⟩

/-! ### new lists -/
theorem rf_ofSeq (hg : Gl X "list") (hm : X.mg "list" = none) (ha : RE X a ma) (hp : plainE a = true) : RF X (.Call (.Name "list" p) [a] [] pos) (fun σ h => (ma σ h).bind fun (x, h1) => (items x h1).bind fun xs => some (xs, h1)) :=
  (pe_callTy call_list_of hg hm (by decide +kernel) (pa_cons ha pa_nil (star_cons hp _ _)) (by decide) (by decide) (star_cons hp _ _) rfl).imp fun σ H Q ⟨ρ, σd, h, d, h', rs, rh, e, o⟩ => by
    cases ea : ma σd h with
    | none => simp [ea] at e
    | some p =>
      obtain ⟨x, h1⟩ := p
      cases ei : items x h1 with
      | none => simp [ea, ei] at e
      | some xs =>
        simp [ea, ei] at e
        obtain ⟨rfl, rfl⟩ := e
        refine ⟨ρ, σd, h, x, h1, rs, rh, ea, fun v H1 ρ1 e1 r1 q1 => ?_⟩
        obtain ⟨p, vs, rfl, sq, qs⟩ := items_sq r1 q1 ei
        exact ⟨p, vs, rfl, sq, fun l n => o l vs H1 ρ1 e1 r1 n qs⟩
theorem rng_V {K : Kw} {ρ : Rho} {H : Hp} {i j : Int} {xs : List D} (e : rng i j = some xs) : RgOk i j ∧ DVs K ρ H xs (rgV i j) ∧ xs.length = (j - i).toNat ∧ -1000000 ≤ i ∧ j ≤ 1000000 ∧ i ≤ 1000000 ∧ -1000000 ≤ j := by
  unfold rng at e
  split at e
  case isFalse => cases e
  rename_i hz
  simp only [Option.some.injEq] at e; subst e
  refine ⟨⟨by omega, by omega, by omega, by omega, by omega⟩, ?_, by simp, hz⟩
  unfold rgV
  have : ∀ l : List Nat, DVs K ρ H (l.map fun n => D.int (i + (n : Nat))) (l.map fun n => V.int (i + (n : Nat))) := by
    intro l
    induction l with
    | nil => exact .nil
    | cons n l ih => exact .cons (DV.int' _) ih
  exact this _
theorem rf_rng1 {p1 pos1 : Pos} (hc : X.calm = true) (hg : Gl X "list") (hm : X.mg "list" = none) (hg2 : Gl X "range") (hm2 : X.mg "range" = none) (ha : RE X a ma) (hp : plainE a = true) :
    RF X (.Call (.Name "list" p) [.Call (.Name "range" p1) [a] [] pos1] [] pos) (fun σ h => (ma σ h).bind fun (x, h1) => match x with | .int i => (rng 0 i).bind fun xs => some (xs, h1) | _ => none) :=
  (pe_listRg hc hg hm (prg_1 hg2 hm2 ha (star_cons hp _ _)) rfl).imp fun σ H Q ⟨ρ, σd, h, d, h', rs, rh, e, o⟩ => by
    cases ea : ma σd h with
    | none => simp [ea] at e
    | some p =>
      obtain ⟨x, h1⟩ := p
      cases x with
      | int i =>
        simp only [ea, Option.bind_some] at e
        cases er : rng 0 i with
        | none => simp [er] at e
        | some xs =>
          simp [er] at e
          obtain ⟨rfl, rfl⟩ := e
          refine ⟨ρ, σd, h, _, h1, rs, rh, ea, fun v H1 ρ1 e1 r1 q1 => ⟨i, q1.i, ?_⟩⟩
          obtain ⟨z1, z2, _⟩ := rng_V (K := X.kw) (ρ := ρ1) (H := H1) er
          exact ⟨z1, fun q n => o q _ H1 ρ1 e1 r1 n z2⟩
      | _ => simp [ea] at e
theorem rf_rng2 {p1 pos1 : Pos} (hc : X.calm = true) (hg : Gl X "list") (hm : X.mg "list" = none) (hg2 : Gl X "range") (hm2 : X.mg "range" = none) (ha : RE X a ma) (hp : plainE a = true) (hb : RE X b mb) (hp2 : plainE b = true) :
    RF X (.Call (.Name "list" p) [.Call (.Name "range" p1) [a, b] [] pos1] [] pos) (fun σ h => (ma σ h).bind fun (x, h1) => (mb σ h1).bind fun (y, h2) => match x, y with | .int i, .int j => (rng i j).bind fun xs => some (xs, h2) | _, _ => none) :=
  (pe_listRg hc hg hm (prg_2 hg2 hm2 ha hb (star_cons hp _ _) (star_cons hp2 _ _) (star_any _ _ (by simp [hp2]))) rfl).imp fun σ H Q ⟨ρ, σd, h, d, h', rs, rh, e, o⟩ => by
    cases ea : ma σd h with
    | none => simp [ea] at e
    | some p =>
      obtain ⟨x, h1⟩ := p
      cases eb : mb σd h1 with
      | none => simp [ea, eb] at e
      | some p =>
        obtain ⟨y, h2⟩ := p
        cases x with
        | int i =>
          cases y with
          | int j =>
            simp only [ea, eb, Option.bind_some] at e
            cases er : rng i j with
            | none => simp [er] at e
            | some xs =>
              simp [er] at e
              obtain ⟨rfl, rfl⟩ := e
              refine ⟨ρ, σd, h, _, h1, rs, rh, ea, fun v H1 ρ1 e1 r1 q1 => ⟨ρ1, σd, h1, _, h2, rs.ext e1, r1, eb, fun w H2 ρ2 e2 r2 q2 => ⟨i, j, (DV.ext e2 _ q1).i, q2.i, ?_⟩⟩⟩
              obtain ⟨z1, z2, _⟩ := rng_V (K := X.kw) (ρ := ρ2) (H := H2) er
              exact ⟨z1, fun q n => o q _ H2 ρ2 (e1.trans e2) r2 n z2⟩
          | _ => simp [ea, eb] at e
        | _ => cases y <;> simp [ea, eb] at e
theorem rf_cat (ha : RE X a ma) (hb : RE X b mb) : RF X (.BinOp a .Add b pos) (fun σ h => (ma σ h).bind fun (x, h1) => (mb σ h1).bind fun (y, h2) => (mitems x h2).bind fun xs => (mitems y h2).bind fun ys => if xs.length + ys.length ≤ lim then some (xs ++ ys, h2) else none) :=
  (pe_op op_cat ha hb).imp fun σ H Q ⟨ρ, σd, h, d, h', rs, rh, e, o⟩ => by
    cases ea : ma σd h with
    | none => simp [ea] at e
    | some p =>
      obtain ⟨x, h1⟩ := p
      cases eb : mb σd h1 with
      | none => simp [ea, eb] at e
      | some p =>
        obtain ⟨y, h2⟩ := p
        cases ex : mitems x h2 with
        | none => simp [ea, eb, ex] at e
        | some xs =>
          cases ey : mitems y h2 with
          | none => simp [ea, eb, ex, ey] at e
          | some ys =>
            simp only [ea, eb, ex, ey, Option.bind_some] at e
            split at e
            case isFalse => cases e
            rename_i hz
            simp only [Option.some.injEq, Prod.mk.injEq] at e
            obtain ⟨rfl, rfl⟩ := e
            refine ⟨ρ, σd, h, _, h1, rs, rh, ea, fun v H1 ρ1 e1 r1 q1 => ⟨ρ1, σd, h1, _, h2, rs.ext e1, r1, eb, fun w H2 ρ2 e2 r2 q2 => ?_⟩⟩
            obtain ⟨l, vs, rfl, hl, yl⟩ := mitems_sq r2 (DV.ext e2 _ q1) ex
            obtain ⟨l', vs', rfl, hl', yl'⟩ := mitems_sq r2 q2 ey
            exact ⟨l, l', vs, vs', rfl, rfl, hl, hl', by rw [← yl.length, ← yl'.length, lim_eq]; exact hz, fun q n => o q _ H2 ρ2 (e1.trans e2) r2 n (yl.append yl')⟩
theorem rf_rep (ha : RE X a ma) (hb : RE X b mb) : RF X (.BinOp a .Mult b pos) (fun σ h => (ma σ h).bind fun (x, h1) => (mb σ h1).bind fun (y, h2) => match y with
    | .int k => (mitems x h2).bind fun xs => if 0 ≤ k ∧ k ≤ lim ∧ xs.length * k.toNat ≤ lim then some ((List.replicate k.toNat xs).flatten, h2) else none
    | _ => none) :=
  (pe_op op_rep ha hb).imp fun σ H Q ⟨ρ, σd, h, d, h', rs, rh, e, o⟩ => by
    cases ea : ma σd h with
    | none => simp [ea] at e
    | some p =>
      obtain ⟨x, h1⟩ := p
      cases eb : mb σd h1 with
      | none => simp [ea, eb] at e
      | some p =>
        obtain ⟨y, h2⟩ := p
        cases y with
        | int k =>
          cases ex : mitems x h2 with
          | none => simp [ea, eb, ex] at e
          | some xs =>
            simp only [ea, eb, ex, Option.bind_some] at e
            split at e
            case isFalse => cases e
            rename_i hz
            simp only [Option.some.injEq, Prod.mk.injEq] at e
            obtain ⟨rfl, rfl⟩ := e
            refine ⟨ρ, σd, h, _, h1, rs, rh, ea, fun v H1 ρ1 e1 r1 q1 => ⟨ρ1, σd, h1, _, h2, rs.ext e1, r1, eb, fun w H2 ρ2 e2 r2 q2 => ?_⟩⟩
            obtain ⟨l, vs, rfl, hl, yl⟩ := mitems_sq r2 (DV.ext e2 _ q1) ex
            have hk : k ≤ 16777216 := hz.2.1
            exact ⟨l, k, vs, rfl, q2.i, hl, by omega, by omega, by rw [← yl.length, lim_eq]; exact hz.2.2, fun q n => o q _ H2 ρ2 (e1.trans e2) r2 n (yl.rep _)⟩
        | _ => simp [ea, eb] at e
/-! ### l.append(e) -/
theorem re_app {apos : Pos} (ha : RE X a ma) (hb : RE X b mb) (hp : plainE b = true) (hbase : attributeBase a "append" X.env (eval a X.env) = eval a X.env) (hline : (apos.endLine == pos.line) = true) :
    RE X (.Call (.Attribute a "append" apos) [b] [] pos) (fun σ h => (ma σ h).bind fun (x, h1) => (litems x h1).bind fun _ => (mb σ h1).bind fun (y, h2) => match x with
      | .ref n => (match h2[n]? with
        | some (.lst ds) => if ds.length < lim then some (.non, h2.set n (.lst (ds ++ [y]))) else none
        | _ => none)
      | _ => none) := by
  have hs := star_cons hp [] X.env
  refine (pe_bm (T := "list") PySem.F.plainAttrs_list PySem.F.slot_list_append PySem.F.type_list_append mt_append ha (pa_cons hb pa_nil hs) hbase ?_ hline hs rfl).imp fun σ H Q ⟨ρ, σd, h, d, h', rs, rh, e, o⟩ => ?_
  · rw [hs]; rfl
  · cases ea : ma σd h with
    | none => simp [ea] at e
    | some p =>
      obtain ⟨x, h1⟩ := p
      cases el : litems x h1 with
      | none => simp [ea, el] at e
      | some l0 =>
      cases eb : mb σd h1 with
      | none => simp [ea, el, eb] at e
      | some p =>
        obtain ⟨y, h2⟩ := p
        cases x with
        | ref n =>
          cases en : h2[n]? with
          | none => simp [ea, el, eb, en] at e
          | some ob =>
            cases ob with
            | dct kvs => simp [ea, el, eb, en] at e
            | ids ks => simp [ea, el, eb, en] at e
            | lst ds =>
              simp only [ea, el, eb, en, Option.bind_some] at e
              split at e
              case isFalse => cases e
              rename_i hz
              simp only [Option.some.injEq, Prod.mk.injEq] at e
              obtain ⟨rfl, rfl⟩ := e
              refine ⟨ρ, σd, h, _, h1, rs, rh, ea, fun v H1 ρ1 e1 r1 q1 => ?_⟩
              obtain ⟨l, rfl, hl⟩ := q1.r
              obtain ⟨o1, e3, ok1⟩ := r1.at' hl
              refine ⟨?_, ρ1, σd, h1, y, h2, rs.ext e1, r1, eb, fun w H2 ρ2 e2 r2 q2 => ?_⟩
              · cases o1 with
                | dct kvs => simp [litems, e3] at el
                | ids ks => simp [litems, e3] at el
                | lst xs =>
                  obtain ⟨vs, e4, _⟩ := ok1
                  exact .inl ⟨rfl, vs, .of e4⟩
              · have hl2 := e2.get hl
                obtain ⟨o2, e5, ok2⟩ := r2.at' hl2
                rw [en] at e5; cases e5
                obtain ⟨vs, e6, yl⟩ := ok2
                refine ⟨l, vs, w, rfl, rfl, e6, by rw [← yl.length, lim_eq]; exact hz, ?_⟩
                exact o _ _ ρ2 ((e1.trans e2).trans (Ext.mut (List.mem_of_getElem? hl2))) (r2.set hl2 (yl.append (.one q2))) DV.non'
        | _ => simp [ea, el, eb] at e
theorem re_ext {apos : Pos} (ha : RE X a ma) (hb : RE X b mb) (hp : plainE b = true) (hbase : attributeBase a "extend" X.env (eval a X.env) = eval a X.env) (hline : (apos.endLine == pos.line) = true) :
    RE X (.Call (.Attribute a "extend" apos) [b] [] pos) (fun σ h => (ma σ h).bind fun (x, h1) => (litems x h1).bind fun _ => (mb σ h1).bind fun (y, h2) => (mitems y h2).bind fun ys => match x with
      | .ref n => (match h2[n]? with
        | some (.lst ds) => if ds.length + ys.length ≤ lim then some (.non, h2.set n (.lst (ds ++ ys))) else none
        | _ => none)
      | _ => none) := by
  have hs := star_cons hp [] X.env
  refine (pe_bm (T := "list") PySem.F.plainAttrs_list PySem.F.slot_list_extend PySem.F.type_list_extend mt_extend ha (pa_cons hb pa_nil hs) hbase ?_ hline hs rfl).imp fun σ H Q ⟨ρ, σd, h, d, h', rs, rh, e, o⟩ => ?_
  · rw [hs]; rfl
  · cases ea : ma σd h with
    | none => simp [ea] at e
    | some p =>
      obtain ⟨x, h1⟩ := p
      cases el : litems x h1 with
      | none => simp [ea, el] at e
      | some l0 =>
      cases eb : mb σd h1 with
      | none => simp [ea, el, eb] at e
      | some p =>
        obtain ⟨y, h2⟩ := p
        cases em : mitems y h2 with
        | none => simp [ea, el, eb, em] at e
        | some ys =>
        cases x with
        | ref n =>
          cases en : h2[n]? with
          | none => simp [ea, el, eb, em, en] at e
          | some ob =>
            cases ob with
            | dct kvs => simp [ea, el, eb, em, en] at e
            | ids ks => simp [ea, el, eb, em, en] at e
            | lst ds =>
              simp only [ea, el, eb, em, en, Option.bind_some] at e
              split at e
              case isFalse => cases e
              rename_i hz
              simp only [Option.some.injEq, Prod.mk.injEq] at e
              obtain ⟨rfl, rfl⟩ := e
              refine ⟨ρ, σd, h, _, h1, rs, rh, ea, fun v H1 ρ1 e1 r1 q1 => ?_⟩
              obtain ⟨l, rfl, hl⟩ := q1.r
              obtain ⟨o1, e3, ok1⟩ := r1.at' hl
              refine ⟨?_, ρ1, σd, h1, y, h2, rs.ext e1, r1, eb, fun w H2 ρ2 e2 r2 q2 => ?_⟩
              · cases o1 with
                | dct kvs => simp [litems, e3] at el
                | ids ks => simp [litems, e3] at el
                | lst xs =>
                  obtain ⟨vs, e4, _⟩ := ok1
                  exact .inl ⟨rfl, vs, .of e4⟩
              · have hl2 := e2.get hl
                obtain ⟨o2, e5, ok2⟩ := r2.at' hl2
                rw [en] at e5; cases e5
                obtain ⟨vs, e6, yl⟩ := ok2
                obtain ⟨bb, zs, rfl, hbb, zl⟩ := mitems_sq r2 q2 em
                refine ⟨l, bb, vs, zs, rfl, rfl, e6, hbb, by rw [← yl.length, ← zl.length, lim_eq]; exact hz, ?_⟩
                exact o _ _ ρ2 ((e1.trans e2).trans (Ext.mut (List.mem_of_getElem? hl2))) (r2.set hl2 (yl.append zl)) DV.non'
        | _ => simp [ea, el, eb, em] at e
end
end PyD

/-! PyE1: enumerate over a tuple. -/
namespace PyD
open PySem PySem.Spec PyProof.Rows L2

theorem meets_enumB {v : Value} {o : Obj} {H : Heap → Prop} (B : Begins v o H) :
    Meets (Builtin.«enumerate.__new__» ⟨[.type "enumerate", v], []⟩) (fun _ R s => H s.heap ∧
      R (.ok (.ret (.ref (s.heap.push o).objs.size))) { s with heap := (s.heap.push o).push { cls := .type "enumerate", data := .fields #[.none, .bool false, .ref s.heap.objs.size, rawInt 0, .none, .none] } }) :=
  .of_wp fun prog w A R s h => by
    obtain ⟨hp, g, d, tk, os⟩ := s; obtain ⟨h1, h⟩ := h
    have hsub := sub_enumerate
    have q1 : ∀ {A' : Around} {E : Value → Shared → Prop} {Q : Value → Shared → Prop}, Q (.ref hp.objs.size) ⟨hp.push o, g, d, tk, os⟩ → wpAny (model prog w) A' (pyIter v) Q E ⟨hp, g, d, tk, os⟩ :=
      fun q => B.iter prog w _ _ ⟨hp, g, d, tk, os⟩ _ h1 q
    wp_walk using q1
    refine wpAny_stack_any fun st => wpAny_pure ?_
    split
    · rename_i c _ _ _ _ _
      cases (c == Value.type "enumerate")
      · wp_walk using q1
        exact ⟨_, rfl, h⟩
      · wp_walk using q1
        exact ⟨_, rfl, h⟩
    · wp_walk using q1
      exact ⟨_, rfl, h⟩
theorem call_enumB {prog : Program} {w : World} {A : Around} {E : Value → Shared → Prop} {s : Shared} {v : Value} {o : Obj} {H : Heap → Prop} {Q : Value → Shared → Prop} (B : Begins v o H) (h1 : H s.heap)
    (h : ∀ h', IsEnum h' (s.heap.objs.size + 1) s.heap.objs.size 0 .none → h'.get? s.heap.objs.size = some o → h'.objs.size = s.heap.objs.size + 2 →
      (∀ b o, s.heap.get? b = some o → h'.get? b = some o) → Q (.ref (s.heap.objs.size + 1)) { s with heap := h' }) :
    wpAny (model prog w) A (call (.type "enumerate") [v]) Q E s := by
  refine callType_new F.called_enumerate (by decide) (F.typeCall_enumerate_1 _) (F.newCall_enumerate_1 _) (fun obj => F.args_object_init_2 obj _) F.entry_enumerate_new (meets_enumB B) ⟨h1, ?_⟩
  have hz : (s.heap.push o).objs.size = s.heap.objs.size + 1 := Heap.size_push ..
  show _ ∧ _
  rw [hz]
  have he : IsEnum ((s.heap.push o).push { cls := .type "enumerate", data := .fields #[.none, .bool false, .ref s.heap.objs.size, rawInt 0, .none, .none] }) (s.heap.objs.size + 1) s.heap.objs.size 0 .none := by
    have := Heap.get?_push_size (s.heap.push o) (o := { cls := .type "enumerate", data := .fields #[.none, .bool false, .ref s.heap.objs.size, rawInt 0, .none, .none] }) rfl
    rw [hz] at this; exact this
  refine ⟨⟨_, he, rfl⟩, h _ he (Heap.get?_push_of_some _ (Heap.get?_push_size _ B.free)) (by rw [Heap.size_push, hz]) fun b o x => Heap.get?_push_of_some _ (Heap.get?_push_of_some _ x)⟩

theorem enumT_end {prog : Program} {w : World} {A : Around} {E : Value → Shared → Prop} {s : Shared} {e it l : Addr} {i : Nat} {items : Array Value} {c : Int} {old : Value} {Q : Option Value → Shared → Prop} (hh : A.handled = none)
    (he : IsEnum s.heap e it c old) (hit : s.heap.IsTupleIter it l i) (hl : s.heap.IsTuple l items) (hx : items[i]? = none)
    (hQ : ∀ h', Heap.ExtBut it s.heap h' → Q none { s with heap := h' }) : wpAny (model prog w) A (pyNext (.ref e)) Q E s := by
  have hTy : s.TypeIs (.ref e) "enumerate" := ⟨_, he, rfl⟩
  unfold pyNext
  refine wpAny_bind (wpAny_attempt (wpAny_callSpecial?_slot (name := Str.ofString "__next__") hTy F.slot_enumerate_next
    (wpAny_call_entry F.slot_enumerate_next hTy F.entry_enumerate_next ?_ (F.args_enumerate_next_1 _))))
  show wpAny _ _ (field (.ref e) 2 >>= _) _ _ _
  refine wpAny_bind (wpAny_field he rfl (x := .ref it) rfl ?_)
  refine wpAny_bind (wpAny_nextOf_tuple_end hh hit hl hx fun h' x he' hx' => ?_)
  obtain ⟨o, ho, hc⟩ := hx'
  refine wpAny_bind (wpAny_isInstance (T := "StopIteration") (b := true) ⟨o, ho, hc⟩ isSubtype_stop ?_)
  exact wpAny_pure (hQ _ he')
/-- the tuple at a, each item in a new pair -/
def IteT (K : PySem.W.Frag) (a : Addr) : L2.It :=
  ⟨fun i H => ∃ (xs : List V) (x : V), SqT K H a xs ∧ xs[i]? = some x, fun i H v H' => ∃ T x, v = .ref T ∧ H T = none ∧ H' = upd H T (.tup [.int (i : Nat), x]) ∧ ∀ xs, SqT K H a xs → xs[i]? = some x, fun i H => ∃ xs : List V, SqT K H a xs ∧ xs.length ≤ i⟩
theorem turn_enumT {P : Program} {w : World} {K : PySem.W.Frag} {elts : List Expr} {kk : Nat} {tpos : Pos} (a e it : Addr) (hat : a ≠ it) (hae : a ≠ e) :
    Turn P w K (.Tuple elts kk tpos) (IteT K a) [e, it] e (fun i h => (∃ old, IsEnum h e it ((i : Nat) : Int) old) ∧ h.IsTupleIter it a i ∧ e ≠ it) where
  mem := by simp
  obj := fun i h st b hb => by
    obtain ⟨⟨old, he⟩, ⟨o, ho, hc, hd⟩, _⟩ := st
    have e' : b = e ∨ b = it := by simpa using hb
    rcases e' with z | z
    · rw [z]; exact ⟨_, he, fun v q => nomatch q⟩
    · rw [z]; exact ⟨o, ho, fun v q => by rw [hd] at q; cases q⟩
  keep := fun i h h' st k => let ⟨⟨old, he⟩, hi, hne⟩ := st; ⟨⟨old, k e (by simp) _ he⟩, hi.at fun o q => k it (by simp) o q, hne⟩
  item := by
    intro X hP hw hK hc i pins s σ H E I hf st hg
    subst hP hw hK
    obtain ⟨⟨old, he⟩, hit, hne⟩ := st
    obtain ⟨xs, x, hq, hx⟩ := hg
    obtain ⟨its, rv, p, hz⟩ := I.tuple hq
    obtain ⟨u, hu, ru⟩ := rv.get hx
    have hel : e < s.heap.objs.size := Heap.lt_size he
    have hil : it < s.heap.objs.size := by obtain ⟨_, q, _⟩ := hit; exact Heap.lt_size q
    have hlt : i < its.toArray.size := by simpa using (List.getElem?_eq_some_iff.mp hu).1
    refine wpAny_pyNext_enum_itemD (Draws.tuple (prog := X.prog) (w := X.w) (A := X.A.in1) (show X.A.in1.handled = none from I.ok.hd hc) it a hat its.toArray) he ⟨hit, ?_⟩ hlt hne ?_ fun y h' tk hy ho st' hT hsz hk => ?_
    · exact p
    · intro m
      rcases List.mem_cons.mp m with m | m
      · exact hne m
      · exact hae (List.mem_singleton.mp m).symm
    obtain rfl : y = u := Option.some.inj (hy.symm.trans (by simpa using hu))
    obtain ⟨hit', _⟩ := st'
    refine ⟨_, rfl, wpAny_letOwnedTupleGo_enum (s := { s with heap := h', toks := tk + 1 }) ho fun h'' he' sb => ?_⟩
    have hT2 : h''.get? s.heap.objs.size = some { cls := .type "tuple", data := .seq #[.int i tk, y] } := (sb.2 _ (Nat.ne_of_gt hel)).trans hT
    have new : ObjOk X.prog X.w (upd H s.heap.objs.size (.tup [.int (i : Nat), x])) h'' s.heap.objs.size (.tup [.int (i : Nat), x]) :=
      ⟨by show 2 ≤ sizeLine; decide, [.int i tk, y], .cons ⟨_, rfl⟩ (.cons ru .nil), ⟨_, hT2, rfl, _, rfl⟩⟩
    have I1 : Inv X pins σ (upd H s.heap.objs.size (.tup [.int (i : Nat), x])) { s with heap := h'', toks := tk + 1 } :=
      I.turnedNew (ch := [e, it]) (fun b ob hb q => (sb.2 b (fun z => hb (by simp [z]))).trans (hk b ob (fun z => hb (by simp [z])) (fun z => hb (by simp [z])) q)) hf (Nat.le_refl _) new
    refine ⟨.ref s.heap.objs.size, _, I1, rfl, ⟨_, x, rfl, I.hok.fresh (Nat.le_refl _), rfl, fun ys hy => by rw [I.tuple_inj hy hq]; exact hx⟩, ⟨⟨y, ?_⟩, hit'.at fun o q => (sb.2 it (Ne.symm hne)).trans q, hne⟩, fun b hb => ?_⟩
    · have e1 : ((i + 1 : Nat) : Int) = (i : Int) + 1 := by omega
      rw [e1]; exact he'
    · have hb' : b < s.heap.objs.size := by
        have e' : b = e ∨ b = it := by simpa using hb
        rcases e' with z | z
        · rw [z]; exact hel
        · rw [z]; exact hil
      rw [upd_ne (Nat.ne_of_lt hb')]
      exact (hf b hb).1
  done := by
    intro X hP hw hK hc i pins s σ H E I hf st hg
    subst hP hw hK
    obtain ⟨⟨old, he⟩, hit, hne⟩ := st
    obtain ⟨xs, hq, hx⟩ := hg
    obtain ⟨its, rv, p, hz⟩ := I.tuple hq
    obtain ⟨f0, f1, f2, f3, f4, f5⟩ := hf it (by simp)
    have hl := rv.length
    exact enumT_end (I.ok.hd hc) he hit p (by simp; omega) fun h' eb => ⟨rfl, I.turned (t' := s.toks) (fun b o hb q => eb b o hb q) f0 f1 f3 f4 f5⟩
  self := fun A i s Q E st h => let ⟨⟨_, he⟩, _⟩ := st; wpAny_pyIter_enum he h
def iEnumT (K : PySem.W.Frag) (ta : TA) : TI := fun σ H R => ta σ H fun vs H1 => ∃ a xs, vs = [.ref a] ∧ ((SqL K H1 a xs ∧ R (Ite K a) H1) ∨ (SqT K H1 a xs ∧ R (IteT K a) H1))
theorem pi_enumT {X : Cx} {e : Expr} {ta : TA} {p pos tpos : Pos} {elts : List Expr} {kk : Nat} (hg : Gl X "enumerate") (hm : X.mg "enumerate" = none) (ha : PA X [e] ta) (hs : starEach [e] X.env = [(false, eval e X.env)] := by rfl) :
    PI X (.Tuple elts kk tpos) (.Call (.Name "enumerate" p) [e] [] pos) (iEnumT X.K ta) := by
  refine ⟨fun pins s σ H R I h => ?_⟩
  refine Call_ (ld_blt I hg hm boot_enumerate (PyProof.Rows.callWith_type1 (thn (ha.run pos pins s σ H _ I h) fun us s1 ⟨vs, H1, I1, r1, q1⟩ => ?_) hs rfl))
  obtain ⟨a, xs, ex, q1⟩ := q1
  subst ex
  cases r1 with
  | cons r rr =>
    cases rr
    cases r
    have fresh : ∀ b, b ∈ [s1.heap.objs.size + 1, s1.heap.objs.size] → FpOk X pins H1 b := fun b hb => by
      have e' : b = s1.heap.objs.size + 1 ∨ b = s1.heap.objs.size := by simpa using hb
      have hle : s1.heap.objs.size ≤ b := by
        rcases e' with z | z
        · rw [z]; exact Nat.le_add_right _ _
        · rw [z]; exact Nat.le_refl _
      exact I1.fpOk hle (I1.hok.fresh hle)
    rcases q1 with ⟨hq, q⟩ | ⟨hq, q⟩
    · obtain ⟨its, rv, p', hz⟩ := I1.list hq
      refine call_enumerate_list p'.isList fun h' he hit hsz hk => wpAny_pyIter_enum he ?_
      have I2 : Inv X pins σ H1 { s1 with heap := h' } := I1.kept (t' := s1.toks) hk
      exact ⟨s1.heap.objs.size + 1, [s1.heap.objs.size + 1, s1.heap.objs.size], _, _, H1, rfl, I2, turn_enum a (s1.heap.objs.size + 1) s1.heap.objs.size, ⟨⟨.none, he⟩, hit, Nat.succ_ne_self _⟩, fresh, q⟩
    · obtain ⟨its, rv, p', hz⟩ := I1.tuple hq
      have hal : a < s1.heap.objs.size := p'.lt
      refine call_enumB (begins_tuple a its.toArray) p' fun h' he hit hsz hk => wpAny_pyIter_enum he ?_
      have I2 : Inv X pins σ H1 { s1 with heap := h' } := I1.kept (t' := s1.toks) hk
      exact ⟨s1.heap.objs.size + 1, [s1.heap.objs.size + 1, s1.heap.objs.size], _, _, H1, rfl, I2, turn_enumT a (s1.heap.objs.size + 1) s1.heap.objs.size (Nat.ne_of_lt hal) (Nat.ne_of_lt (Nat.lt_succ_of_lt hal)), ⟨⟨.none, he⟩, ⟨_, hit, rfl, rfl⟩, Nat.succ_ne_self _⟩, fresh, q⟩
end PyD

/-! PyD6: targets, what is walked, comprehensions, by data. -/
namespace PyD
open PySem PySem.Spec PyProof.Rows L2

/-! ### targets -/
mutual
def slots : Tg → List Nat
  | .v i => [i]
  | .t ts => slotss ts
def slotss : Tgs → List Nat
  | .nil => []
  | .cons t ts => slots t ++ slotss ts
end
/-- the slots outside stay -/
def Off (is : List Nat) (σ σ' : L2.St) : Prop := σ'.length = σ.length ∧ ∀ i, i ∉ is → σ'[i]? = σ[i]?
theorem Off.refl (is : List Nat) (σ : L2.St) : Off is σ σ := ⟨rfl, fun _ _ => rfl⟩
theorem Off.trans {is js : List Nat} {σ σ1 σ2 : L2.St} (a : Off is σ σ1) (b : Off js σ1 σ2) : Off (is ++ js) σ σ2 :=
  ⟨b.1.trans a.1, fun i h => by
    rw [List.mem_append, not_or] at h
    rw [b.2 i h.2, a.2 i h.1]⟩
def gD (K : Kw) (t : Tg) : TG := fun v σ H Q => ∃ ρ σd h d σd', RepS K ρ H σ σd ∧ RepH K ρ H h ∧ DV K ρ H d v ∧ put t d σd = some σd' ∧ ∀ σ', RepS K ρ H σ' σd' → Off (slots t) σ σ' → Q σ' H
def gDs (K : Kw) (ts : Tgs) : TGs := fun vs σ H Q => ∃ ρ σd h ds σd', RepS K ρ H σ σd ∧ RepH K ρ H h ∧ DVs K ρ H ds vs ∧ puts ts ds σd = some σd' ∧ ∀ σ', RepS K ρ H σ' σd' → Off (slotss ts) σ σ' → Q σ' H
abbrev RG (X : Cx) (tg : Expr) (t : Tg) : Prop := PG X tg (gD X.kw t)
abbrev RGs (X : Cx) (tgs : List Expr) (t : Tgs) : Prop := PGs X tgs (gDs X.kw t)
theorem _root_.L2.PG.imp {X : Cx} {e : Expr} {t t' : TG} (h : PG X e t) (i : ∀ v σ H Q, t' v σ H Q → t v σ H Q) : PG X e t' := ⟨fun pins s σ H v u Q I r q => h.run pins s σ H v u Q I r (i v σ H Q q)⟩
theorem _root_.L2.PGs.imp {X : Cx} {e : List Expr} {t t' : TGs} (h : PGs X e t) (i : ∀ v σ H Q, t' v σ H Q → t v σ H Q) : PGs X e t' := ⟨fun pins s σ H v u Q I r q => h.run pins s σ H v u Q I r (i v σ H Q q)⟩
theorem _root_.L2.PI.imp {X : Cx} {tg e : Expr} {t t' : TI} (h : PI X tg e t) (i : ∀ σ H R, t' σ H R → t σ H R) : PI X tg e t' := ⟨fun pins s σ H R I q => h.run pins s σ H R I (i σ H R q)⟩
theorem each_cons {e : Expr} (h : plainE e = true) (es : List Expr) (env : Env) : assignEach (e :: es) env = (false, assign e env) :: assignEach es env := by
  cases e <;> first | rfl | simp [plainE] at h
theorem each_len (env : Env) : ∀ {es : List Expr}, es.all plainE = true → (assignEach es env).length = es.length ∧ (assignEach es env).findIdx? (·.1) = none
  | [], _ => ⟨rfl, rfl⟩
  | e :: es, h => by
    rw [List.all_cons, Bool.and_eq_true] at h
    obtain ⟨h1, h2⟩ := each_len env h.2
    rw [each_cons h.1]
    refine ⟨by simp [h1], ?_⟩
    rw [List.findIdx?_cons]
    simp [h2]
section
variable {X : Cx} {pos p : Pos} {e a b : Expr} {es : List Expr}
theorem rg_v {i : Nat} {x : Str} (hN : X.N.Nodup) (hi : X.N[i]? = some x) (hx : Loc X.env.scope x) (hf : X.fn x = true ∨ X.env.scope.names.lookup x = some .local) : RG X (.Name x pos) (.v i) :=
  (pg_name hN hi hx hf).imp fun v σ H Q ⟨ρ, σd, h, d, σd', rs, rh, q, e, o⟩ => by
    simp only [put, Option.some.injEq] at e; subst e
    refine o _ (rs.set q) ⟨by simp, fun j hj => ?_⟩
    simp only [slots, List.mem_singleton] at hj
    rw [List.getElem?_set_ne (Ne.symm hj)]
theorem rgs_nil : RGs X [] .nil := pgs_nil.imp fun vs σ H Q ⟨ρ, σd, h, ds, σd', rs, rh, q, e, o⟩ => by
  cases ds with
  | nil =>
    simp only [puts, Option.some.injEq] at e; subst e
    simp only [DVs] at q
    exact ⟨q, o σ rs (Off.refl _ _)⟩
  | cons _ _ => simp [puts] at e
theorem rgs_cons {t : Tg} {ts : Tgs} (hp : plainE e = true) (h1 : RG X e t) (h2 : RGs X es ts) : RGs X (e :: es) (.cons t ts) :=
  (pgs_cons h1 h2 (by rw [each_cons hp]; rfl)).imp fun vs σ H Q ⟨ρ, σd, h, ds, σd', rs, rh, q, e, o⟩ => by
    cases ds with
    | nil => simp [puts] at e
    | cons d ds =>
      simp only [puts] at e
      cases ep : put t d σd with
      | none => simp [ep] at e
      | some σ1 =>
        simp only [ep, Option.bind_some] at e
        simp only [DVs] at q
        obtain ⟨v, r, rfl, q1, q2⟩ := q
        refine ⟨v, r, rfl, ρ, σd, h, d, σ1, rs, rh, q1, ep, fun σ' rs' off => ⟨ρ, σ1, h, ds, σd', rs', rh, q2, e, fun σ2 rs2 off2 => o σ2 rs2 ?_⟩⟩
        have := off.trans off2
        simpa only [slotss] using this
def lenT : Tgs → Nat
  | .nil => 0
  | .cons _ ts => lenT ts + 1
theorem puts_len : ∀ {ts : Tgs} {ds : List D} {σ σ' : Sl}, puts ts ds σ = some σ' → ds.length = lenT ts
  | .nil, [], _, _, _ => rfl
  | .nil, _ :: _, _, _, e => by simp [puts] at e
  | .cons _ _, [], _, _, e => by simp [puts] at e
  | .cons t ts, d :: ds, σ, σ', e => by
    simp only [puts] at e
    cases ep : put t d σ with
    | none => simp [ep] at e
    | some σ1 =>
      simp only [ep, Option.bind_some] at e
      rw [List.length_cons, puts_len e, lenT]
theorem rg_t {ts : Tgs} {k : Nat} (hc : X.calm = true) (hp : es.all plainE = true) (hl : lenT ts = es.length) (h : RGs X es ts) : RG X (.Tuple es k pos) (.t ts) :=
  (pg_tup (n := es.length) hc h (each_len _ hp).1 (each_len _ hp).2).imp fun v σ H Q ⟨ρ, σd, hh, d, σd', rs, rh, q, e, o⟩ => by
    cases d with
    | tup ds =>
      simp only [put] at e
      obtain ⟨a, vs, rfl, z, y⟩ := q.t
      refine ⟨a, vs, rfl, z.sq, ?_, ρ, σd, hh, ds, σd', rs, rh, y, e, fun σ' rs' off => o σ' rs' (by simpa only [slots] using off)⟩
      rw [← y.length, puts_len e, hl]
    | _ => simp [put] at e

/-! ### what is walked -/
/-- at any later time in which the list keeps its length the walk goes over the items -/
def Wk (K : Kw) (ρ : Rho) (H : Hp) (J : L2.It) (xs : List D) (n : Option Nat) : Prop :=
  ∀ ρ' H' h' i, Ext ρ H ρ' H' → RepH K ρ' H' h' → okL n xs.length h' = true →
    (i = xs.length → J.stop i H') ∧ ∀ x d, xs[i]? = some x → cur n i x h' = some d → J.go i H' ∧ ∀ v H'', J.yld i H' v H'' → Ext ρ' H' ρ' H'' ∧ RepH K ρ' H'' h' ∧ DV K ρ' H'' d v
def tI (K : Kw) (m : Sl → AH → Option (List D × Option Nat × AH)) : TI := fun σ H R =>
  ∃ ρ σd h xs n h', RepS K ρ H σ σd ∧ RepH K ρ H h ∧ m σd h = some (xs, n, h') ∧ ∀ J H' ρ', Ext ρ H ρ' H' → RepH K ρ' H' h' → Wk K ρ' H' J xs n → R J H'
abbrev RI (X : Cx) (tg e : Expr) (m : Sl → AH → Option (List D × Option Nat × AH)) : Prop := PI X tg e (tI X.kw m)
variable {tg : Expr} {m ma mb : Sl → AH → Option (D × AH)}
/-- a list or a tuple -/
def iSeq (K : Kw) (tl : TE) : TI := fun σ H R => tl σ H fun x H1 => ∃ a xs, x = .ref a ∧ ((SqL K H1 a xs ∧ R (Itl K a) H1) ∨ (SqT K H1 a xs ∧ R (Itt K a) H1))
theorem pi_seq {l : Expr} {tl : TE} (hl : PE X l tl) : PI X tg l (iSeq X.kw tl) := by
  refine ⟨fun pins s σ H R I h => ?_⟩
  refine thn (hl.run pins s σ H _ I h) fun v s1 ⟨x, H1, I1, r1, q1⟩ => ?_
  obtain ⟨a, xs, e, q1⟩ := q1
  subst e
  cases r1
  have fr : ∀ b ∈ [s1.heap.objs.size], FpOk X pins H1 b := fun b hb => by
    have e : b = s1.heap.objs.size := by simpa using hb
    subst e
    exact I1.fpOk (Nat.le_refl _) (I1.hok.fresh (Nat.le_refl _))
  rcases q1 with ⟨hq, q⟩ | ⟨hq, q⟩
  · obtain ⟨its, rv, p, hz⟩ := I1.list hq
    exact wpAny_pyIter_list p.isList ⟨s1.heap.objs.size, [s1.heap.objs.size], _, _, H1, rfl, I1.kept (t' := s1.toks) fun b o e => Heap.get?_push_of_some _ e, turn_list a _, ⟨_, Heap.get?_push_size _ rfl, rfl, rfl⟩, fr, q⟩
  · obtain ⟨its, rv, p, hz⟩ := I1.tuple hq
    exact wpAny_pyIter_tuple (show s1.heap.IsTuple a its.toArray from p) ⟨s1.heap.objs.size, [s1.heap.objs.size], _, _, H1, rfl, I1.kept (t' := s1.toks) fun b o e => Heap.get?_push_of_some _ e, turn_tuple a _, ⟨_, Heap.get?_push_size _ rfl, rfl, rfl⟩, fr, q⟩
section
variable {K : Kw} {ρ : Rho} {H : Hp} {h : AH}
theorem wk_tup {a : Addr} {xs : List D} {vs : List V} (q : QT K ρ H a vs) (y : DVs K ρ H xs vs) : Wk K ρ H (Itt K a) xs none := by
  intro ρ' H' h' i e r _
  have q' := q.ext e
  have y' := DVs.ext e xs y
  refine ⟨fun hi => ⟨vs, q'.sq, by rw [← y.length, hi]; exact Nat.le_refl _⟩, fun x d hx hd => ?_⟩
  simp only [cur, Option.some.injEq] at hd; subst hd
  obtain ⟨v, hv, qv⟩ := y'.get hx
  refine ⟨⟨vs, v, q'.sq, hv⟩, fun v' H'' ⟨eH, hyl⟩ => ?_⟩
  subst eH
  have := hyl vs q'.sq
  rw [hv] at this; cases this
  exact ⟨Ext.refl _ _, r, qv⟩
theorem wk_lst {a : Addr} {xs : List D} {vs : List V} (q : ∀ ρ' H', Ext ρ H ρ' H' → SqL K H' a vs) (y : DVs K ρ H xs vs) : Wk K ρ H (Itl K a) xs none := by
  intro ρ' H' h' i e r _
  have q' := q ρ' H' e
  have y' := DVs.ext e xs y
  refine ⟨fun hi => ⟨vs, q', by rw [← y.length, hi]; exact Nat.le_refl _⟩, fun x d hx hd => ?_⟩
  simp only [cur, Option.some.injEq] at hd; subst hd
  obtain ⟨v, hv, qv⟩ := y'.get hx
  refine ⟨⟨vs, v, q', hv⟩, fun v' H'' ⟨eH, hyl⟩ => ?_⟩
  subst eH
  have := hyl vs q'
  rw [hv] at this; cases this
  exact ⟨Ext.refl _ _, r, qv⟩
theorem wk_ref {a : Addr} {xs : List D} {n : Nat} (hn : ρ.r[n]? = some a) : Wk K ρ H (Itl K a) xs (some n) := by
  intro ρ' H' h' i e r ok
  obtain ⟨ob, e1, ak⟩ := r.at' (e.get hn)
  cases ob with
  | dct kvs => simp [okL, e1] at ok
  | ids ks => simp [okL, e1] at ok
  | lst ds =>
    simp only [okL, e1, beq_iff_eq] at ok
    obtain ⟨vs, e2, y⟩ := ak
    have hS : SqL K H' a vs := .of e2
    refine ⟨fun hi => ⟨vs, hS, by rw [← y.length, hi, ok]; exact Nat.le_refl _⟩, fun x d hx hd => ?_⟩
    simp only [cur, e1] at hd
    obtain ⟨v, hv, qv⟩ := y.get hd
    refine ⟨⟨vs, v, hS, hv⟩, fun v' H'' ⟨eH, hyl⟩ => ?_⟩
    subst eH
    have := hyl vs hS
    rw [hv] at this; cases this
    exact ⟨Ext.refl _ _, r, qv⟩
end
theorem ri_seq {l : Expr} (hl : RE X l m) : RI X tg l (fun σ h => (m σ h).bind fun (x, h1) => (items x h1).bind fun xs => some (xs, (match x with | .ref n => some n | _ => none), h1)) :=
  (pi_seq hl).imp fun σ H R ⟨ρ, σd, h, xs, n, h', rs, rh, e, o⟩ => by
    cases ea : m σd h with
    | none => simp [ea] at e
    | some p =>
      obtain ⟨x, h1⟩ := p
      cases ei : items x h1 with
      | none => simp [ea, ei] at e
      | some ys =>
        simp only [ea, ei, Option.bind_some, Option.some.injEq, Prod.mk.injEq] at e
        obtain ⟨rfl, rfl, rfl⟩ := e
        refine ⟨ρ, σd, h, x, h1, rs, rh, ea, fun v H1 ρ1 e1 r1 q1 => ?_⟩
        cases x with
        | tup zs =>
          simp only [items, Option.some.injEq] at ei; subst ei
          obtain ⟨a, vs, rfl, z, y⟩ := q1.t
          exact ⟨a, vs, rfl, .inr ⟨z.sq, o _ H1 ρ1 e1 r1 (wk_tup z y)⟩⟩
        | lst zs =>
          simp only [items, Option.some.injEq] at ei; subst ei
          obtain ⟨a, vs, rfl, z, y⟩ := q1.l
          exact ⟨a, vs, rfl, .inl ⟨z.sq, o _ H1 ρ1 e1 r1 (wk_lst (fun ρ' H' e2 => (z.ext e2).sq) y)⟩⟩
        | rol zs =>
          simp only [items, Option.some.injEq] at ei; subst ei
          obtain ⟨a, vs, rfl, z, y⟩ := q1.o
          exact ⟨a, vs, rfl, .inl ⟨z.sq, o _ H1 ρ1 e1 r1 (wk_lst (fun ρ' H' e2 => (z.ext e2).sq) y)⟩⟩
        | ref k =>
          obtain ⟨a, rfl, z⟩ := q1.r
          obtain ⟨ob, e2, ak⟩ := r1.at' z
          cases ob with
          | dct kvs => simp [items, e2] at ei
          | ids ks => simp [items, e2] at ei
          | lst ds =>
            obtain ⟨vs, e3, y⟩ := ak
            exact ⟨a, vs, rfl, .inl ⟨.of e3, o _ H1 ρ1 e1 r1 (wk_ref z)⟩⟩
        | _ => simp [items] at ei

theorem wk_rng {K : Kw} {ρ : Rho} {H : Hp} {i j : Int} {xs : List D} {n : Nat} (e : rng i j = some xs) (hn : n = (j - i).toNat) : Wk K ρ H (Itr i n) xs none := by
  intro ρ' H' h' t e' r _
  have hl := (rng_V (K := K) (ρ := ρ') (H := H') e).2.2.1
  refine ⟨fun ht => by show n ≤ t; omega, fun x d hx hd => ?_⟩
  simp only [cur, Option.some.injEq] at hd; subst hd
  have ht := (List.getElem?_eq_some_iff.mp hx).1
  refine ⟨by show t < n; omega, fun v H'' ⟨eH, ev⟩ => ?_⟩
  subst eH; subst ev
  refine ⟨Ext.refl _ _, r, ?_⟩
  have : x = .int (i + (t : Nat)) := by
    unfold rng at e
    split at e
    case isFalse => cases e
    simp only [Option.some.injEq] at e; subst e
    simp only [List.getElem?_map] at hx
    rw [List.getElem?_range (by simpa using ht)] at hx
    simpa using hx.symm
  rw [this]; exact DV.int' _
theorem ri_rng1 {p1 : Pos} (hg : Gl X "range") (hm : X.mg "range" = none) (ha : RE X a ma) (hp : plainE a = true) :
    RI X tg (.Call (.Name "range" p) [a] [] pos) (fun σ h => (ma σ h).bind fun (x, h1) => match x with | .int i => (rng 0 i).bind fun xs => some (xs, none, h1) | _ => none) :=
  (pi_range1 hg hm (pa_cons ha pa_nil (star_cons hp _ _)) (star_cons hp _ _)).imp fun σ H R ⟨ρ, σd, h, xs, n, h', rs, rh, e, o⟩ => by
    cases ea : ma σd h with
    | none => simp [ea] at e
    | some p =>
      obtain ⟨x, h1⟩ := p
      cases x with
      | int i =>
        simp only [ea, Option.bind_some] at e
        cases er : rng 0 i with
        | none => simp [er] at e
        | some xs =>
          simp [er] at e
          obtain ⟨rfl, rfl, rfl⟩ := e
          refine ⟨ρ, σd, h, _, h1, rs, rh, ea, fun v H1 ρ1 e1 r1 q1 => ?_⟩
          have z := rng_V (K := X.kw) (ρ := ρ1) (H := H1) er
          exact ⟨i, by rw [q1.i], by omega, by omega, o _ H1 ρ1 e1 r1 (wk_rng er (by omega))⟩
      | _ => simp [ea] at e
theorem ri_rng2 (hg : Gl X "range") (hm : X.mg "range" = none) (ha : RE X a ma) (hp : plainE a = true) (hb : RE X b mb) (hp2 : plainE b = true) :
    RI X tg (.Call (.Name "range" p) [a, b] [] pos) (fun σ h => (ma σ h).bind fun (x, h1) => (mb σ h1).bind fun (y, h2) => match x, y with | .int i, .int j => (rng i j).bind fun xs => some (xs, none, h2) | _, _ => none) :=
  (pi_range2 hg hm (pa_cons ha (pa_cons hb pa_nil (star_cons hp2 _ _)) (star_cons hp _ _)) (by rw [star_cons hp, star_cons hp2]; rfl) (by rw [star_cons hp2]; rfl)).imp fun σ H R ⟨ρ, σd, h, xs, n, h', rs, rh, e, o⟩ => by
    cases ea : ma σd h with
    | none => simp [ea] at e
    | some p =>
      obtain ⟨x, h1⟩ := p
      cases eb : mb σd h1 with
      | none => simp [ea, eb] at e
      | some p =>
        obtain ⟨y, h2⟩ := p
        cases x with
        | int i =>
          cases y with
          | int j =>
            simp only [ea, eb, Option.bind_some] at e
            cases er : rng i j with
            | none => simp [er] at e
            | some xs =>
              simp [er] at e
              obtain ⟨rfl, rfl, rfl⟩ := e
              refine ⟨ρ, σd, h, _, h1, rs, rh, ea, fun v H1 ρ1 e1 r1 q1 => ⟨ρ1, σd, h1, _, h2, rs.ext e1, r1, eb, fun w H2 ρ2 e2 r2 q2 => ?_⟩⟩
              have z := rng_V (K := X.kw) (ρ := ρ2) (H := H2) er
              exact ⟨i, j, by rw [q1.i, q2.i], ⟨by omega, by omega, by omega, by omega⟩, o _ H2 ρ2 (e1.trans e2) r2 (wk_rng er rfl)⟩
          | _ => simp [ea, eb] at e
        | _ => cases y <;> simp [ea, eb] at e
/-- a new pair -/
theorem pair_new {K : Kw} {ρ : Rho} {H : Hp} {h : AH} {T : Addr} {x y : V} {d d' : D} (r : RepH K ρ H h) (n : H T = none) (q : DV K ρ H d x) (q' : DV K ρ H d' y) :
    Ext ρ H ρ (upd H T (.tup [x, y])) ∧ RepH K ρ (upd H T (.tup [x, y])) h ∧ DV K ρ (upd H T (.tup [x, y])) (.tup [d, d']) (.ref T) := by
  have e : Ext ρ H ρ (upd H T (.tup [x, y])) := Ext.fresh n
  refine ⟨e, r.fresh n, ?_⟩
  simp only [DV]
  exact ⟨T, _, rfl, .inl ⟨.inl upd_same, r.notMem n⟩, DVs.ext e _ (.cons q (.one q'))⟩
theorem wk_zip {K : Kw} {ρ : Rho} {H : Hp} {a b : Addr} {xs ys : List D} {vs ws : List V} (q : QT K ρ H a vs) (y : DVs K ρ H xs vs) (q' : QT K ρ H b ws) (y' : DVs K ρ H ys ws) :
    Wk K ρ H (RZ.ItzT K a b) ((xs.zip ys).map fun p => .tup [p.1, p.2]) none := by
  intro ρ' H' h' i e r _
  have z := q.ext e
  have z' := q'.ext e
  have w := DVs.ext e xs y
  have w' := DVs.ext e ys y'
  refine ⟨fun hi => ⟨vs, ws, z.sq, z'.sq, by simp at hi; rw [← y.length, ← y'.length]; omega⟩, fun x d hx hd => ?_⟩
  simp only [cur, Option.some.injEq] at hd; subst hd
  rw [List.getElem?_map] at hx
  cases hz : (xs.zip ys)[i]? with
  | none => simp [hz] at hx
  | some p =>
    obtain ⟨d1, d2⟩ := p
    simp [hz] at hx; subst hx
    obtain ⟨h1, h2⟩ := List.getElem?_zip_eq_some.mp hz
    obtain ⟨v1, g1, k1⟩ := w.get h1
    obtain ⟨v2, g2, k2⟩ := w'.get h2
    refine ⟨⟨vs, ws, v1, v2, z.sq, z'.sq, g1, g2⟩, fun v H'' ⟨T, x1, x2, ev, nT, eH, f1, f2⟩ => ?_⟩
    subst ev; subst eH
    have a1 := f1 vs z.sq
    have a2 := f2 ws z'.sq
    rw [g1] at a1; rw [g2] at a2
    cases a1; cases a2
    exact pair_new r nT k1 k2
theorem ri_zip {elts : List Expr} {kk : Nat} {tpos : Pos} (hg : Gl X "zip") (hm : X.mg "zip" = none) (ha : RE X a ma) (hp : plainE a = true) (hb : RE X b mb) (hp2 : plainE b = true) :
    RI X (.Tuple elts kk tpos) (.Call (.Name "zip" p) [a, b] [] pos) (fun σ h => (ma σ h).bind fun (x, h1) => (mb σ h1).bind fun (y, h2) => match x, y with
      | .tup xs, .tup ys => some ((xs.zip ys).map (fun p => .tup [p.1, p.2]), none, h2)
      | _, _ => none) :=
  (RZ.pi_zipA hg hm (pa_cons ha (pa_cons hb pa_nil (star_cons hp2 _ _)) (star_cons hp _ _)) (star_cons hp _ _) (star_any _ _ (by simp [hp2]))).imp fun σ H R ⟨ρ, σd, h, xs, n, h', rs, rh, e, o⟩ => by
    cases ea : ma σd h with
    | none => simp [ea] at e
    | some p =>
      obtain ⟨x, h1⟩ := p
      cases eb : mb σd h1 with
      | none => simp [ea, eb] at e
      | some p =>
        obtain ⟨y, h2⟩ := p
        cases x with
        | tup xs =>
          cases y with
          | tup ys =>
            simp only [ea, eb, Option.bind_some, Option.some.injEq, Prod.mk.injEq] at e
            obtain ⟨rfl, rfl, rfl⟩ := e
            refine ⟨ρ, σd, h, _, h1, rs, rh, ea, fun v H1 ρ1 e1 r1 q1 => ⟨ρ1, σd, h1, _, h2, rs.ext e1, r1, eb, fun w H2 ρ2 e2 r2 q2 => ?_⟩⟩
            obtain ⟨a, vs, rfl, z, y⟩ := (DV.ext e2 _ q1).t
            obtain ⟨b, ws, rfl, z', y'⟩ := q2.t
            exact ⟨a, b, vs, ws, rfl, .inr ⟨z.sq, z'.sq, o _ H2 ρ2 (e1.trans e2) r2 (wk_zip z y z' y')⟩⟩
          | _ => simp [ea, eb] at e
        | _ => cases y <;> simp [ea, eb] at e
theorem wk_enum {K : Kw} {ρ : Rho} {H : Hp} {a : Addr} {xs : List D} {vs : List V} (q : ∀ ρ' H', Ext ρ H ρ' H' → SqL K H' a vs) (y : DVs K ρ H xs vs) :
    Wk K ρ H (Ite K a) (xs.mapIdx fun i d => .tup [.int i, d]) none := by
  intro ρ' H' h' i e r _
  have z := q ρ' H' e
  have w := DVs.ext e xs y
  refine ⟨fun hi => ⟨vs, z, by simp at hi; rw [← y.length]; omega⟩, fun x d hx hd => ?_⟩
  simp only [cur, Option.some.injEq] at hd; subst hd
  rw [List.getElem?_mapIdx] at hx
  cases hz : xs[i]? with
  | none => simp [hz] at hx
  | some d1 =>
    simp [hz] at hx; subst hx
    obtain ⟨v1, g1, k1⟩ := w.get hz
    refine ⟨⟨vs, v1, z, g1⟩, fun v H'' ⟨T, x1, ev, nT, eH, f1⟩ => ?_⟩
    subst ev; subst eH
    have a1 := f1 vs z
    rw [g1] at a1
    cases a1
    exact pair_new r nT (DV.int' _) k1
theorem wk_enumT {K : Kw} {ρ : Rho} {H : Hp} {a : Addr} {xs : List D} {vs : List V} (q : ∀ ρ' H', Ext ρ H ρ' H' → SqT K H' a vs) (y : DVs K ρ H xs vs) :
    Wk K ρ H (IteT K a) (xs.mapIdx fun i d => .tup [.int i, d]) none := by
  intro ρ' H' h' i e r _
  have z := q ρ' H' e
  have w := DVs.ext e xs y
  refine ⟨fun hi => ⟨vs, z, by simp at hi; rw [← y.length]; omega⟩, fun x d hx hd => ?_⟩
  simp only [cur, Option.some.injEq] at hd; subst hd
  rw [List.getElem?_mapIdx] at hx
  cases hz : xs[i]? with
  | none => simp [hz] at hx
  | some d1 =>
    simp [hz] at hx; subst hx
    obtain ⟨v1, g1, k1⟩ := w.get hz
    refine ⟨⟨vs, v1, z, g1⟩, fun v H'' ⟨T, x1, ev, nT, eH, f1⟩ => ?_⟩
    subst ev; subst eH
    have a1 := f1 vs z
    rw [g1] at a1
    cases a1
    exact pair_new r nT (DV.int' _) k1
theorem ri_enum {elts : List Expr} {kk : Nat} {tpos : Pos} (hg : Gl X "enumerate") (hm : X.mg "enumerate" = none) (ha : RE X a ma) (hp : plainE a = true) :
    RI X (.Tuple elts kk tpos) (.Call (.Name "enumerate" p) [a] [] pos) (fun σ h => (ma σ h).bind fun (x, h1) => match x with
      | .tup xs => some (xs.mapIdx (fun i d => .tup [.int i, d]), none, h1)
      | .lst xs => some (xs.mapIdx (fun i d => .tup [.int i, d]), none, h1)
      | .rol xs => some (xs.mapIdx (fun i d => .tup [.int i, d]), none, h1)
      | _ => none) :=
  (pi_enumT hg hm (pa_cons ha pa_nil (star_cons hp _ _)) (star_cons hp _ _)).imp fun σ H R ⟨ρ, σd, h, xs, n, h', rs, rh, e, o⟩ => by
    cases ea : ma σd h with
    | none => simp [ea] at e
    | some p =>
      obtain ⟨x, h1⟩ := p
      cases x with
      | tup xs =>
        simp only [ea, Option.bind_some, Option.some.injEq, Prod.mk.injEq] at e
        obtain ⟨rfl, rfl, rfl⟩ := e
        refine ⟨ρ, σd, h, _, h1, rs, rh, ea, fun v H1 ρ1 e1 r1 q1 => ?_⟩
        obtain ⟨a, vs, rfl, z, y⟩ := q1.t
        exact ⟨a, vs, rfl, .inr ⟨(z.sq : SqT X.K H1 a vs), o _ H1 ρ1 e1 r1 (wk_enumT (fun ρ' H' e2 => (z.ext e2).sq) y)⟩⟩
      | lst xs =>
        simp only [ea, Option.bind_some, Option.some.injEq, Prod.mk.injEq] at e
        obtain ⟨rfl, rfl, rfl⟩ := e
        refine ⟨ρ, σd, h, _, h1, rs, rh, ea, fun v H1 ρ1 e1 r1 q1 => ?_⟩
        obtain ⟨a, vs, rfl, z, y⟩ := q1.l
        exact ⟨a, vs, rfl, .inl ⟨(QL.sq (K := X.kw) z), o _ H1 ρ1 e1 r1 (wk_enum (fun ρ' H' e2 => (z.ext e2).sq) y)⟩⟩
      | rol xs =>
        simp only [ea, Option.bind_some, Option.some.injEq, Prod.mk.injEq] at e
        obtain ⟨rfl, rfl, rfl⟩ := e
        refine ⟨ρ, σd, h, _, h1, rs, rh, ea, fun v H1 ρ1 e1 r1 q1 => ?_⟩
        obtain ⟨a, vs, rfl, z, y⟩ := q1.o
        exact ⟨a, vs, rfl, .inl ⟨z.sq, o _ H1 ρ1 e1 r1 (wk_enum (fun ρ' H' e2 => (z.ext e2).sq) y)⟩⟩
      | _ => simp [ea] at e

/-! ### comprehensions -/
theorem wipe_get {σ : L2.St} {i : Nat} : ∀ {vs : List Nat}, (L2.wipe σ vs)[i]? = if i ∈ vs ∧ i < σ.length then some none else σ[i]?
  | [] => by simp [L2.wipe]
  | v :: vs => by
    unfold L2.wipe
    by_cases hi : i = v
    · subst hi
      by_cases hl : i < σ.length
      · rw [List.getElem?_set_self (by rw [wipe_length]; exact hl), if_pos ⟨by simp, hl⟩]
      · rw [List.getElem?_eq_none (by simp [wipe_length]; omega), if_neg (fun z => hl z.2), List.getElem?_eq_none (by omega)]
    · rw [List.getElem?_set_ne (Ne.symm hi), wipe_get (vs := vs)]
      simp [hi]
theorem wipeD_get {σ : Sl} {i : Nat} : ∀ {vs : List Nat}, (wipe σ vs).length = σ.length ∧ (wipe σ vs)[i]? = if i ∈ vs ∧ i < σ.length then some none else σ[i]?
  | [] => by simp [wipe]
  | v :: vs => by
    have hl' := (wipeD_get (σ := σ) (i := i) (vs := vs)).1
    unfold wipe
    refine ⟨by rw [List.length_set, hl'], ?_⟩
    by_cases hi : i = v
    · subst hi
      by_cases hl : i < σ.length
      · rw [List.getElem?_set_self (by rw [hl']; exact hl), if_pos ⟨by simp, hl⟩]
      · rw [List.getElem?_eq_none (by simp [hl']; omega), if_neg (fun z => hl z.2), List.getElem?_eq_none (by omega)]
    · rw [List.getElem?_set_ne (Ne.symm hi), (wipeD_get (vs := vs)).2]
      simp [hi]
theorem wipe_off {σ σ2 : L2.St} {vs is : List Nat} (h : Off is (L2.wipe σ vs) σ2) (hs : ∀ i ∈ is, i ∈ vs) : L2.wipe σ2 vs = L2.wipe σ vs := by
  apply List.ext_getElem?
  intro i
  rw [wipe_get, wipe_get]
  have hl : σ2.length = σ.length := by rw [h.1, wipe_length]
  rw [hl]
  by_cases hi : i ∈ vs ∧ i < σ.length
  · rw [if_pos hi, if_pos hi]
  · rw [if_neg hi, if_neg hi]
    by_cases hv : i ∈ vs
    · have : ¬ i < σ.length := fun z => hi ⟨hv, z⟩
      rw [List.getElem?_eq_none (by omega), List.getElem?_eq_none (by omega)]
    · rw [h.2 i fun z => hv (hs i z), wipe_get, if_neg hi]
theorem RepS.wipe {K : Kw} {ρ : Rho} {H : Hp} {σ : L2.St} {σd : Sl} (r : RepS K ρ H σ σd) (vs : List Nat) : RepS K ρ H (L2.wipe σ vs) (PyD.wipe σd vs) := by
  refine ⟨by rw [wipe_length, (wipeD_get (i := 0)).1, r.len], fun i d h => ?_⟩
  rw [(wipeD_get (i := i)).2] at h
  split at h
  · cases h
  · rename_i hn
    obtain ⟨v, e, q⟩ := r.val i d h
    exact ⟨v, by rw [wipe_get, if_neg (by rw [r.len]; exact hn)]; exact e, q⟩
theorem okL_none {len : Nat} {h : AH} : okL none len h = true := rfl
/-- [elt for tg in it if cond] -/
theorem tLc_imp {K : Kw} {mi : Sl → AH → Option (List D × Option Nat × AH)} {tgt : Tg} {mc : Sl → AH → Option (Bool × AH)} {me : Sl → AH → Option (D × AH)} {vs : List Nat} (hv : ∀ i ∈ slots tgt, i ∈ vs) (σ : L2.St) (H : Hp) (Q : VK)
    (q : tD K (fun σ h => (mi σ h).bind fun (xs, n, h1) => if xs.length ≤ lim then (compL (wipe σ vs) tgt n xs.length mc me xs 0 h1).bind fun (ds, h2) => some (.lst ds, h2) else none) σ H Q) :
    tLc (tI K mi) (gD K tgt) (tDT K mc) (tD K me) vs σ H Q := by
  obtain ⟨ρ, σd, h, d, h', rs, rh, e, o⟩ := q
  cases ei : mi σd h with
  | none => simp [ei] at e
  | some p =>
    obtain ⟨xs, n, h1⟩ := p
    simp only [ei, Option.bind_some] at e
    split at e
    case isFalse => cases e
    rename_i hz
    cases ec : compL (wipe σd vs) tgt n xs.length mc me xs 0 h1 with
    | none => simp [ec] at e
    | some p =>
      obtain ⟨ds, h2⟩ := p
      simp [ec] at e
      obtain ⟨rfl, rfl⟩ := e
      refine ⟨ρ, σd, h, xs, n, h1, rs, rh, ei, fun J H1 ρ1 e1 r1 wk D hD => ?_⟩
      have eh : Ext ρ1 H1 (ρ1.hide D) (L2.upd H1 D (.lst [])) := Ext.hide hD
      have nw1 : D ∉ ρ1.w := fun m => r1.notMem hD (.inr m)
      refine ⟨fun i m H => m = xs.length - i ∧ i ≤ xs.length ∧ ∃ ρ' hc acc vacc rest, Ext ρ1 H1 ρ' H ∧ D ∈ ρ'.w ∧ RepH K ρ' H hc ∧ H D = some (.lst vacc) ∧ RepS K ρ' H (L2.wipe σ vs) (wipe σd vs) ∧ DVs K ρ' H acc vacc ∧ acc.length ≤ i ∧
          compL (wipe σd vs) tgt n xs.length mc me (xs.drop i) i hc = some (rest, h2) ∧ acc ++ rest = ds,
        ⟨xs.length, by simp, Nat.zero_le _, ρ1.hide D, h1, [], [], ds, eh, List.mem_cons_self, r1.hide hD, upd_same, ((rs.ext e1).ext eh).wipe vs, .nil, Nat.le_refl _, by simpa using ec, rfl⟩, ?_⟩
      rintro i m H ⟨rfl, hi, ρ', hc, acc, vacc, rest, e3, dw, r3, hDl, rsc, qa, hacc, ecl, eds⟩
      by_cases hlt : i < xs.length
      · right
        rw [List.drop_eq_getElem_cons hlt] at ecl
        simp only [compL] at ecl
        split at ecl
        case isFalse => cases ecl
        rename_i ok
        cases ecu : cur n i xs[i] hc with
        | none => simp [ecu] at ecl
        | some y =>
          simp only [ecu, Option.bind_some] at ecl
          cases ept : put tgt y (wipe σd vs) with
          | none => simp [ept] at ecl
          | some σ1 =>
            simp only [ept, Option.bind_some] at ecl
            obtain ⟨_, wi⟩ := wk ρ' H hc i e3 r3 ok
            obtain ⟨go, yl⟩ := wi xs[i] y (List.getElem?_eq_getElem hlt) ecu
            refine ⟨go, fun H' => ∃ ρ' hc acc vacc rest, Ext ρ1 H1 ρ' H' ∧ D ∈ ρ'.w ∧ RepH K ρ' H' hc ∧ H' D = some (.lst vacc) ∧ RepS K ρ' H' (L2.wipe σ vs) (wipe σd vs) ∧ DVs K ρ' H' acc vacc ∧ acc.length ≤ i + 1 ∧
                compL (wipe σd vs) tgt n xs.length mc me (xs.drop (i + 1)) (i + 1) hc = some (rest, h2) ∧ acc ++ rest = ds, fun H' nx => ⟨xs.length - (i + 1), by omega, rfl, hlt, nx⟩, fun v H' hy => ?_⟩
            obtain ⟨e4, r4, q4⟩ := yl v H' hy
            refine ⟨ρ', wipe σd vs, hc, y, σ1, rsc.ext e4, r4, q4, ept, fun σ2 rs2 off => ⟨wipe_off off hv, ?_⟩⟩
            have nD : D ∉ ρ'.r := (r3.hid D dw).1
            have hD4 : H' D = some (.lst vacc) := e4.keep _ _ hDl nD
            cases ecc : mc σ1 hc with
            | none => simp [ecc] at ecl
            | some p =>
              obtain ⟨b, h3⟩ := p
              simp only [ecc, Option.bind_some] at ecl
              refine ⟨ρ', σ1, hc, b, h3, rs2, r4, ecc, fun H5 ρ5 e5 r5 => ?_⟩
              have hD5 : H5 D = some (.lst vacc) := e5.keep _ _ hD4 nD
              have dw5 : D ∈ ρ5.w := e5.hidden dw
              cases b with
              | false =>
                simp only [Bool.false_eq_true, if_false] at ecl ⊢
                exact ⟨ρ5, h3, acc, vacc, rest, e3.trans (e4.trans e5), dw5, r5, hD5, rsc.ext (e4.trans e5), DVs.ext (e4.trans e5) acc qa, by omega, ecl, eds⟩
              | true =>
                simp only [if_true] at ecl ⊢
                cases eel : me σ1 h3 with
                | none => simp [eel] at ecl
                | some p =>
                  obtain ⟨de, h4⟩ := p
                  simp only [eel, Option.bind_some] at ecl
                  cases ecr : compL (wipe σd vs) tgt n xs.length mc me (xs.drop (i + 1)) (i + 1) h4 with
                  | none => simp [ecr] at ecl
                  | some p =>
                    obtain ⟨rest', h5⟩ := p
                    simp only [ecr, Option.bind_some, Option.some.injEq, Prod.mk.injEq] at ecl
                    obtain ⟨rfl, rfl⟩ := ecl
                    refine ⟨ρ5, σ1, h3, de, h4, rs2.ext e5, r5, eel, fun w H6 ρ6 e6 r6 q6 => ?_⟩
                    have nD5 : D ∉ ρ5.r := (r5.hid D dw5).1
                    have hD6 : H6 D = some (.lst vacc) := e6.keep _ _ hD5 nD5
                    have dw6 : D ∈ ρ6.w := e6.hidden dw5
                    have ea : Ext ρ' H ρ6 H6 := e4.trans (e5.trans e6)
                    have qa6 := DVs.ext ea acc qa
                    have hl : vacc.length < lim := by rw [← qa6.length]; omega
                    refine ⟨vacc, hD6, by rw [lim_eq]; exact hl, ρ6, h4, acc ++ [de], vacc ++ [w], rest', (e3.trans ea).updw hD, dw6, r6.updw dw6, upd_same, (rsc.ext ea).updw dw6, DVs.upd (.inr dw6) _ (qa6.append (.one q6)), by simp; omega, ecr, by simpa using eds⟩
      · left
        have hie : i = xs.length := by omega
        subst hie
        rw [List.drop_length] at ecl
        simp only [compL] at ecl
        split at ecl
        case isFalse => cases ecl
        rename_i ok
        simp only [Option.some.injEq, Prod.mk.injEq] at ecl
        obtain ⟨rfl, rfl⟩ := ecl
        refine ⟨(wk ρ' H hc xs.length e3 r3 ok).1 rfl, ?_⟩
        rw [List.append_nil] at eds
        subst eds
        obtain ⟨ρf, ef, nf, hr, hw⟩ := e3.show hD (r3.hid D dw).1 nw1
        refine o _ H ρf (e1.trans ef) (r3.less hr hw) ?_
        simp only [DV]
        exact ⟨D, vacc, rfl, ⟨hDl, nf⟩, DVs.less hr hw acc qa⟩
end
end PyD

/-! PyD7: statements by data. -/
namespace PyD
open PySem PySem.Spec PyProof.Rows L2

/-- what is wanted behind a statement, by data -/
def EndD (K : Kw) (D : Ends) (f : Fl) (ρ : Rho) (σ : L2.St) (H : Hp) : Prop :=
  match f with
  | .nx => D.nx σ H
  | .bk => D.bk σ H
  | .ct => D.ct σ H
  | .rt d => ∀ v, DV K ρ H d v → D.rt v H
abbrev Mst := Sl → AH → Option (Fl × Sl × AH)
def tS (K : Kw) (m : Mst) : TS := fun D σ H => ∃ ρ σd h f σd' h', RepS K ρ H σ σd ∧ RepH K ρ H h ∧ m σd h = some (f, σd', h') ∧
  ∀ σ' H' ρ', Ext ρ H ρ' H' → RepS K ρ' H' σ' σd' → RepH K ρ' H' h' → EndD K D f ρ' σ' H'
abbrev RS (X : Cx) (st : Stmt) (m : Mst) : Prop := PS X st (tS X.kw m)
abbrev RSs (X : Cx) (st : List Stmt) (m : Mst) : Prop := PSs X st (tS X.kw m)
/-! ### the syntax's side conditions -/
def notComp : Expr → Bool
  | .ListComp .. => false
  | .SetComp .. => false
  | .DictComp .. => false
  | _ => true
theorem swaps_no {e : Expr} (h : notComp e = true) (t : Option Expr) (l : Nat) (env : Env) : swapsWith e t l env = pure false := by
  cases e <;> first | rfl | simp [notComp] at h
theorem folded_no {e : Expr} (h : plainE e = true) (h2 : (match e with | .Set .. => false | _ => true) = true) (env : Env) (x : Value) : foldedSetIterable e env x = pure x := by
  cases e <;> first | rfl | simp at h2
section
variable {X : Cx} {e a b : Expr} {es : List Expr} {pos p : Pos} {m ma mb mc : Sl → AH → Option (D × AH)} {st : Stmt} {sts : List Stmt} {ms ms' : Mst}
theorem rss_nil : RSs X [] (fun σ h => some (.nx, σ, h)) := pss_nil.imp fun D σ H ⟨ρ, σd, h, f, σd', h', rs, rh, e, o⟩ => by
  simp only [Option.some.injEq, Prod.mk.injEq] at e
  obtain ⟨rfl, rfl, rfl⟩ := e
  exact o σ H ρ (Ext.refl _ _) rs rh
theorem rss_cons (h1 : RS X st ms) (h2 : RSs X sts ms') : RSs X (st :: sts) (fun σ h => (ms σ h).bind fun (f, σ1, h1) => match f with
    | .nx => ms' σ1 h1
    | f => some (f, σ1, h1)) := (pss_cons h1 h2).imp fun D σ H ⟨ρ, σd, h, f, σd', h', rs, rh, e, o⟩ => by
  cases ea : ms σd h with
  | none => simp [ea] at e
  | some p =>
    obtain ⟨f1, σ1, h1⟩ := p
    refine ⟨ρ, σd, h, f1, σ1, h1, rs, rh, ea, fun σ' H' ρ' e1 rs1 r1 => ?_⟩
    cases f1 with
    | nx =>
      simp only [ea, Option.bind_some] at e
      exact ⟨ρ', σ1, h1, f, σd', h', rs1, r1, e, fun σ2 H2 ρ2 e2 rs2 r2 => o σ2 H2 ρ2 (e1.trans e2) rs2 r2⟩
    | rt d =>
      simp only [ea, Option.bind_some, Option.some.injEq, Prod.mk.injEq] at e
      obtain ⟨rfl, rfl, rfl⟩ := e
      exact o σ' H' ρ' e1 rs1 r1
    | bk =>
      simp only [ea, Option.bind_some, Option.some.injEq, Prod.mk.injEq] at e
      obtain ⟨rfl, rfl, rfl⟩ := e
      exact o σ' H' ρ' e1 rs1 r1
    | ct =>
      simp only [ea, Option.bind_some, Option.some.injEq, Prod.mk.injEq] at e
      obtain ⟨rfl, rfl, rfl⟩ := e
      exact o σ' H' ρ' e1 rs1 r1
theorem rs_pass : RS X (.Pass pos) (fun σ h => some (.nx, σ, h)) := ps_pass.imp fun D σ H ⟨ρ, σd, h, f, σd', h', rs, rh, e, o⟩ => by
  simp only [Option.some.injEq, Prod.mk.injEq] at e
  obtain ⟨rfl, rfl, rfl⟩ := e
  exact o σ H ρ (Ext.refl _ _) rs rh
theorem rs_brk : RS X (.Break pos) (fun σ h => some (.bk, σ, h)) := ps_break.imp fun D σ H ⟨ρ, σd, h, f, σd', h', rs, rh, e, o⟩ => by
  simp only [Option.some.injEq, Prod.mk.injEq] at e
  obtain ⟨rfl, rfl, rfl⟩ := e
  exact o σ H ρ (Ext.refl _ _) rs rh
theorem rs_cnt : RS X (.Continue pos) (fun σ h => some (.ct, σ, h)) := ps_continue.imp fun D σ H ⟨ρ, σd, h, f, σd', h', rs, rh, e, o⟩ => by
  simp only [Option.some.injEq, Prod.mk.injEq] at e
  obtain ⟨rfl, rfl, rfl⟩ := e
  exact o σ H ρ (Ext.refl _ _) rs rh
theorem rs_retN : RS X (.Return none pos) (fun σ h => some (.rt .non, σ, h)) := ps_retN.imp fun D σ H ⟨ρ, σd, h, f, σd', h', rs, rh, e, o⟩ => by
  simp only [Option.some.injEq, Prod.mk.injEq] at e
  obtain ⟨rfl, rfl, rfl⟩ := e
  exact o σ H ρ (Ext.refl _ _) rs rh _ DV.non'
theorem rs_ret (he : RE X e m) : RS X (.Return (some e) pos) (fun σ h => (m σ h).bind fun (d, h1) => some (.rt d, σ, h1)) := (ps_ret he).imp fun D σ H ⟨ρ, σd, h, f, σd', h', rs, rh, e, o⟩ => by
  cases ea : m σd h with
  | none => simp [ea] at e
  | some p =>
    obtain ⟨d, h1⟩ := p
    simp [ea] at e
    obtain ⟨rfl, rfl, rfl⟩ := e
    exact ⟨ρ, σd, h, d, h1, rs, rh, ea, fun v H1 ρ1 e1 r1 q1 => o σ H1 ρ1 e1 (rs.ext e1) r1 v q1⟩
theorem rs_expr (hn : notComp e = true) (he : RE X e m) : RS X (.Expr e pos) (fun σ h => (m σ h).bind fun (_, h1) => some (.nx, σ, h1)) := (ps_expr he (swaps_no hn _ _ _)).imp fun D σ H ⟨ρ, σd, h, f, σd', h', rs, rh, e, o⟩ => by
  cases ea : m σd h with
  | none => simp [ea] at e
  | some p =>
    obtain ⟨d, h1⟩ := p
    simp [ea] at e
    obtain ⟨rfl, rfl, rfl⟩ := e
    exact ⟨ρ, σd, h, d, h1, rs, rh, ea, fun v H1 ρ1 e1 r1 q1 => o σ H1 ρ1 e1 (rs.ext e1) r1⟩
theorem rs_if {c : Expr} {sa sb : List Stmt} (hc : RT X c (tstM mc)) (ha : RSs X sa ms) (hb : RSs X sb ms') : RS X (.If c sa sb pos) (fun σ h => (tstM mc σ h).bind fun (k, h1) => if k then ms σ h1 else ms' σ h1) :=
  (ps_if hc ha hb).imp fun D σ H ⟨ρ, σd, h, f, σd', h', rs, rh, e, o⟩ => by
    cases ea : tstM mc σd h with
    | none => simp [ea] at e
    | some p =>
      obtain ⟨k, h1⟩ := p
      refine ⟨ρ, σd, h, k, h1, rs, rh, ea, fun H1 ρ1 e1 r1 => ?_⟩
      cases k with
      | true =>
        simp only [ea, Option.bind_some, if_true] at e
        rw [if_pos rfl]
        exact ⟨ρ1, σd, h1, f, σd', h', rs.ext e1, r1, e, fun σ2 H2 ρ2 e2 rs2 r2 => o σ2 H2 ρ2 (e1.trans e2) rs2 r2⟩
      | false =>
        simp only [ea, Option.bind_some, Bool.false_eq_true, if_false] at e
        rw [if_neg Bool.false_ne_true]
        exact ⟨ρ1, σd, h1, f, σd', h', rs.ext e1, r1, e, fun σ2 H2 ρ2 e2 rs2 r2 => o σ2 H2 ρ2 (e1.trans e2) rs2 r2⟩
/-- name = value, by a reading of the value -/
theorem tAsg_imp {i : Nat} {te : TE} (ht : ∀ σ H Q, tD X.kw m σ H Q → te σ H Q) (D : Ends) (σ : L2.St) (H : Hp) (q : tS X.kw (fun σ h => (m σ h).bind fun (d, h1) => some (.nx, σ.set i (some d), h1)) D σ H) : tAsg te (gName i) D σ H := by
  obtain ⟨ρ, σd, h, f, σd', h', rs, rh, e, o⟩ := q
  cases ea : m σd h with
  | none => simp [ea] at e
  | some p =>
    obtain ⟨d, h1⟩ := p
    simp [ea] at e
    obtain ⟨rfl, rfl, rfl⟩ := e
    exact ht _ _ _ ⟨ρ, σd, h, d, h1, rs, rh, ea, fun v H1 ρ1 e1 r1 q1 => o _ H1 ρ1 e1 ((rs.ext e1).set q1) r1⟩
theorem rs_set {i : Nat} {x : Str} {pos' : Pos} (hN : X.N.Nodup) (hi : X.N[i]? = some x) (hx : Loc X.env.scope x) (hf : X.fn x = true ∨ X.env.scope.names.lookup x = some .local) (he : RE X e m) (hs : swapsWith e (some (.Name x pos')) pos.line X.env = pure false) :
    RS X (.Assign [.Name x pos'] e pos) (fun σ h => (m σ h).bind fun (d, h1) => some (.nx, σ.set i (some d), h1)) :=
  (ps_set hN hi hx he hs hf).imp fun D σ H q => tAsg_imp (fun _ _ _ z => z) D σ H q
theorem rs_asg {tg : Expr} {t : Tg} (he : RE X e m) (hg : RG X tg t) (hp : plainE tg = true) (hs : swapsWith e (some tg) pos.line X.env = pure false) (hw : swappedStores [tg] e X.env = pure none) :
    RS X (.Assign [tg] e pos) (fun σ h => (m σ h).bind fun (d, h1) => (put t d σ).bind fun σ1 => some (.nx, σ1, h1)) :=
  (ps_asg (pos := pos) he hg (show swapsWithSole [tg] e pos.line X.env = pure false from hs) hw (by rw [each_cons hp]; rfl)).imp fun D σ H ⟨ρ, σd, h, f, σd', h', rs, rh, e, o⟩ => by
    cases ea : m σd h with
    | none => simp [ea] at e
    | some p =>
      obtain ⟨d, h1⟩ := p
      cases ep : put t d σd with
      | none => simp [ea, ep] at e
      | some σ1 =>
        simp [ea, ep] at e
        obtain ⟨rfl, rfl, rfl⟩ := e
        exact ⟨ρ, σd, h, d, h1, rs, rh, ea, fun v H1 ρ1 e1 r1 q1 => ⟨ρ1, σd, h1, d, σ1, rs.ext e1, r1, q1, ep, fun σ' rs' _ => o σ' H1 ρ1 e1 rs' r1⟩⟩
theorem rs_par2 {i j : Nat} {x y : Str} {px py pt : Pos} {kt k2 pt2} (hc : X.calm = true) (hN : X.N.Nodup) (hi : X.N[i]? = some x) (hj : X.N[j]? = some y) (hij : i ≠ j)
    (hx : X.env.scope.names.lookup x = some .local) (hy : X.env.scope.names.lookup y = some .local) (ha : RE X a ma) (hb : RE X b mb) (hp : plainE a = true) (hp2 : plainE b = true)
    (hw : swappedStores [.Tuple [.Name x px, .Name y py] kt pt] (.Tuple [a, b] k2 pt2) X.env = pure (some [x, y])) :
    RS X (.Assign [.Tuple [.Name x px, .Name y py] kt pt] (.Tuple [a, b] k2 pt2) pos) (fun σ h => (ma σ h).bind fun (x, h1) => (mb σ h1).bind fun (y, h2) => some (.nx, (σ.set i (some x)).set j (some y), h2)) :=
  (ps_par hc hN hi hj hij hx hy (pa_cons ha (pa_cons hb pa_nil (star_cons hp2 _ _)) (star_cons hp _ _)) hw rfl).imp fun D σ H ⟨ρ, σd, h, f, σd', h', rs, rh, e, o⟩ => by
    cases ea : ma σd h with
    | none => simp [ea] at e
    | some p =>
      obtain ⟨u, h1⟩ := p
      cases eb : mb σd h1 with
      | none => simp [ea, eb] at e
      | some p =>
        obtain ⟨w, h2⟩ := p
        simp [ea, eb] at e
        obtain ⟨rfl, rfl, rfl⟩ := e
        exact ⟨ρ, σd, h, u, h1, rs, rh, ea, fun v1 H1 ρ1 e1 r1 q1 => ⟨ρ1, σd, h1, w, h2, rs.ext e1, r1, eb, fun v2 H2 ρ2 e2 r2 q2 => ⟨v1, v2, rfl, o _ H2 ρ2 (e1.trans e2) (((rs.ext (e1.trans e2)).set (DV.ext e2 _ q1)).set q2) r2⟩⟩⟩
theorem rs_par3 {i j l : Nat} {x y z : Str} {c : Expr} {px py pz pt : Pos} {kt k2 pt2} (hc : X.calm = true) (hN : X.N.Nodup) (hi : X.N[i]? = some x) (hj : X.N[j]? = some y) (hl : X.N[l]? = some z) (hij : i ≠ j) (hil : i ≠ l) (hjl : j ≠ l)
    (hx : X.env.scope.names.lookup x = some .local) (hy : X.env.scope.names.lookup y = some .local) (hz : X.env.scope.names.lookup z = some .local) (ha : RE X a ma) (hb : RE X b mb) (hcc : RE X c mc) (hp : plainE a = true) (hp2 : plainE b = true) (hp3 : plainE c = true)
    (hw : swappedStores [.Tuple [.Name x px, .Name y py, .Name z pz] kt pt] (.Tuple [a, b, c] k2 pt2) X.env = pure (some [x, y, z])) :
    RS X (.Assign [.Tuple [.Name x px, .Name y py, .Name z pz] kt pt] (.Tuple [a, b, c] k2 pt2) pos) (fun σ h => (ma σ h).bind fun (x, h1) => (mb σ h1).bind fun (y, h2) => (mc σ h2).bind fun (z, h3) => some (.nx, ((σ.set i (some x)).set j (some y)).set l (some z), h3)) :=
  (ps_par3 hc hN hi hj hl hij hil hjl hx hy hz (pa_cons ha (pa_cons hb (pa_cons hcc pa_nil (star_cons hp3 _ _)) (star_cons hp2 _ _)) (star_cons hp _ _)) hw rfl).imp fun D σ H ⟨ρ, σd, h, f, σd', h', rs, rh, e, o⟩ => by
    cases ea : ma σd h with
    | none => simp [ea] at e
    | some p =>
      obtain ⟨u, h1⟩ := p
      cases eb : mb σd h1 with
      | none => simp [ea, eb] at e
      | some p =>
        obtain ⟨w, h2⟩ := p
        cases ec : mc σd h2 with
        | none => simp [ea, eb, ec] at e
        | some p =>
          obtain ⟨t, h3⟩ := p
          simp [ea, eb, ec] at e
          obtain ⟨rfl, rfl, rfl⟩ := e
          exact ⟨ρ, σd, h, u, h1, rs, rh, ea, fun v1 H1 ρ1 e1 r1 q1 => ⟨ρ1, σd, h1, w, h2, rs.ext e1, r1, eb, fun v2 H2 ρ2 e2 r2 q2 => ⟨ρ2, σd, h2, t, h3, rs.ext (e1.trans e2), r2, ec, fun v3 H3 ρ3 e3 r3 q3 => ⟨v1, v2, v3, rfl,
            o _ H3 ρ3 (e1.trans (e2.trans e3)) ((((rs.ext (e1.trans (e2.trans e3))).set (DV.ext (e2.trans e3) _ q1)).set (DV.ext e3 _ q2)).set q3) r3⟩⟩⟩⟩
theorem rs_aug {i : Nat} {x : Str} {pos' : Pos} {op : Bop} (hop : op = .add ∨ op = .sub) (hN : X.N.Nodup) (hi : X.N[i]? = some x) (hx : Loc X.env.scope x) (hf : X.fn x = true ∨ X.env.scope.names.lookup x = some .local) (he : RE X e m) :
    RS X (.AugAssign (.Name x pos') (bopP op) e pos) (fun σ h => match σ[i]? with
      | some (some (.int x)) => (m σ h).bind fun (y, h1) => (augF op x y).bind fun z => some (.nx, σ.set i (some z), h1)
      | _ => none) := by
  have core : ∀ (g : Int → Int → Int), (∀ a b, augF op a (.int b) = some (.int (g a b))) → ∀ D σ H, tS X.kw (fun σ h => match σ[i]? with
      | some (some (.int x)) => (m σ h).bind fun (y, h1) => (augF op x y).bind fun z => some (.nx, σ.set i (some z), h1)
      | _ => none) D σ H → tAug i (tD X.kw m) (ipI g) D σ H := by
    intro g hg D σ H ⟨ρ, σd, h, f, σd', h', rs, rh, e, o⟩
    cases es : σd[i]? with
    | none => simp [es] at e
    | some w =>
      cases w with
      | none => simp [es] at e
      | some w =>
        cases w with
        | int z =>
          cases ea : m σd h with
          | none => simp [es, ea] at e
          | some p =>
            obtain ⟨y, h1⟩ := p
            cases y with
            | int y =>
              obtain ⟨v, ev, qv⟩ := rs.val i _ es
              simp only [es, ea, hg, Option.bind_some, Option.some.injEq, Prod.mk.injEq] at e
              obtain ⟨rfl, rfl, rfl⟩ := e
              refine ⟨v, ev, ρ, σd, h, _, h1, rs, rh, ea, fun u H1 ρ1 e1 r1 q1 => ⟨z, y, qv.i, q1.i, o _ H1 ρ1 e1 ((rs.ext e1).set (DV.int' _)) r1⟩⟩
            | _ => rcases hop with rfl | rfl <;> simp [es, ea, augF] at e
        | _ => simp [es] at e
  rcases hop with rfl | rfl
  · exact (ps_aug hN hi hx he ip_add hf).imp (core (fun a b => a + b) fun a b => rfl)
  · exact (ps_aug hN hi hx he ip_sub hf).imp (core (fun a b => a - b) fun a b => rfl)
theorem rs_setIx {o i : Expr} {mo mi : Sl → AH → Option (D × AH)} {tpos : Pos} (hv : RE X e m) (ho : RE X o mo) (hi : RE X i mi) (hp : plainE i = true) (hn : notComp e = true) :
    RS X (.Assign [.Subscript o i tpos] e pos) (fun σ h => (m σ h).bind fun (d, h1) => (mo σ h1).bind fun (x, h2) => (mi σ h2).bind fun (y, h3) => match x, y with
      | .ref n, .int k => (match h3[n]? with
        | some (.lst ds) => (place ds.length k).bind fun j => some (.nx, σ, h3.set n (.lst (ds.set j d)))
        | _ => none)
      | _, _ => none) := by
  have hasg : ∀ v, assign (.Subscript o i tpos) X.env v = (do
      let ov ← holding [v] (eval o X.env)
      let iv ← holding [v, ov] (eval i X.env)
      standAt tpos
      holding [v, ov, iv] (setItem ov iv v)
      release [v, ov, iv] []) := by
    intro v
    cases i <;> first | rfl | simp [plainE] at hp
  have hsw : swappedStores [.Subscript o i tpos] e X.env = pure none := by cases e <;> rfl
  refine (ps_asg (pos := pos) hv (pg_sub ho hi set_list hasg) (show swapsWith e (some (.Subscript o i tpos)) pos.line X.env = pure false from swaps_no hn _ _ _) hsw rfl).imp fun D σ H ⟨ρ, σd, h, f, σd', h', rs, rh, e, o⟩ => ?_
  cases ea : m σd h with
  | none => simp [ea] at e
  | some p =>
    obtain ⟨d, h1⟩ := p
    cases eb : mo σd h1 with
    | none => simp [ea, eb] at e
    | some p =>
      obtain ⟨x, h2⟩ := p
      cases ec : mi σd h2 with
      | none => simp [ea, eb, ec] at e
      | some p =>
        obtain ⟨y, h3⟩ := p
        cases x with
        | ref n =>
          cases y with
          | int k =>
            cases en : h3[n]? with
            | none => simp [ea, eb, ec, en] at e
            | some ob =>
              cases ob with
              | dct kvs => simp [ea, eb, ec, en] at e
              | ids ks => simp [ea, eb, ec, en] at e
              | lst ds =>
                cases ej : place ds.length k with
                | none => simp [ea, eb, ec, en, ej] at e
                | some j =>
                  simp [ea, eb, ec, en, ej] at e
                  obtain ⟨rfl, rfl, rfl⟩ := e
                  refine ⟨ρ, σd, h, d, h1, rs, rh, ea, fun v H1 ρ1 e1 r1 q1 => ⟨ρ1, σd, h1, _, h2, rs.ext e1, r1, eb, fun w H2 ρ2 e2 r2 q2 => ⟨ρ2, σd, h2, _, h3, rs.ext (e1.trans e2), r2, ec, fun u H3 ρ3 e3 r3 q3 => ?_⟩⟩⟩
                  obtain ⟨l, rfl, hl⟩ := (DV.ext e3 _ q2).r
                  obtain ⟨o2, e5, ok2⟩ := r3.at' hl
                  rw [en] at e5; cases e5
                  obtain ⟨vs, e6, yl⟩ := ok2
                  refine ⟨l, vs, k, j, rfl, q3.i, e6, by rw [← yl.length]; exact ej, ?_⟩
                  have em : Ext ρ3 H3 ρ3 (L2.upd H3 l (.lst (vs.set j v))) := Ext.mut (List.mem_of_getElem? hl)
                  have et := e1.trans (e2.trans (e3.trans em))
                  exact o _ _ ρ3 et (rs.ext et) (r3.set hl (yl.set (DV.ext (e2.trans e3) _ q1) j))
          | _ => simp [ea, eb, ec] at e
        | _ => cases y <;> simp [ea, eb, ec] at e
/-! ### loops -/
theorem rs_while {c : Expr} {body : List Stmt} {fuel : Nat} (hp : PassesOwn (model X.prog X.w) X.A X.env X.xe) (hc : RT X c (tstM mc)) (hb : RSs X body ms) : RS X (.While c body [] pos) (fun σ h => whileF (tstM mc) ms fuel σ h) :=
  (ps_while hp hc hb).imp fun D σ H ⟨ρ, σd, h, f, σd', h', rs, rh, e, o⟩ => by
    refine ⟨fun m σ H' => ∃ ρ' sd hc, Ext ρ H ρ' H' ∧ RepS X.kw ρ' H' σ sd ∧ RepH X.kw ρ' H' hc ∧ whileF (tstM mc) ms m sd hc = some (f, σd', h'), ⟨fuel, ρ, σd, h, Ext.refl _ _, rs, rh, e⟩, ?_⟩
    rintro n σ1 H1 ⟨ρ1, sd, hc, e1, rs1, r1, ew⟩
    cases n with
    | zero => simp [whileF] at ew
    | succ n =>
      simp only [whileF] at ew
      cases ec : tstM mc sd hc with
      | none => simp only [ec, Option.bind_none] at ew; cases ew
      | some p =>
        obtain ⟨k, h2⟩ := p
        simp only [ec, Option.bind_some] at ew
        refine ⟨ρ1, sd, hc, k, h2, rs1, r1, ec, fun H2 ρ2 e2 r2 => ?_⟩
        cases k with
        | false =>
          simp only [Bool.false_eq_true, if_false, Option.some.injEq, Prod.mk.injEq] at ew ⊢
          obtain ⟨rfl, rfl, rfl⟩ := ew
          exact o σ1 H2 ρ2 (e1.trans e2) (rs1.ext e2) r2
        | true =>
          simp only [if_true] at ew ⊢
          cases eb : ms sd h2 with
          | none => simp [eb] at ew
          | some p =>
            obtain ⟨f3, s3, h3⟩ := p
            simp only [eb, Option.bind_some] at ew
            refine ⟨fun σ' H' => ∃ ρ' sd hc, Ext ρ H ρ' H' ∧ RepS X.kw ρ' H' σ' sd ∧ RepH X.kw ρ' H' hc ∧ whileF (tstM mc) ms n sd hc = some (f, σd', h'), fun σ' H' z => ⟨n, Nat.lt_succ_self _, z⟩,
              ρ2, sd, h2, f3, s3, h3, rs1.ext e2, r2, eb, fun σ' H' ρ' e3 rs3 r3 => ?_⟩
            have et := e1.trans (e2.trans e3)
            cases f3 with
            | nx => exact ⟨ρ', s3, h3, et, rs3, r3, ew⟩
            | ct => exact ⟨ρ', s3, h3, et, rs3, r3, ew⟩
            | bk =>
              simp only [Option.some.injEq, Prod.mk.injEq] at ew
              obtain ⟨rfl, rfl, rfl⟩ := ew
              exact o σ' H' ρ' et rs3 r3
            | rt d =>
              simp only [Option.some.injEq, Prod.mk.injEq] at ew
              obtain ⟨rfl, rfl, rfl⟩ := ew
              exact o σ' H' ρ' et rs3 r3
theorem rs_for {tg iter : Expr} {body : List Stmt} {t : Tg} {mi : Sl → AH → Option (List D × Option Nat × AH)} (hp : PassesOwn (model X.prog X.w) X.A X.env X.xe) (hc : X.calm = true) (hi : RI X tg iter mi) (hg : RG X tg t) (hb : RSs X body ms)
    (hs : ∀ x, foldedSetIterable iter X.env x = pure x) : RS X (.For tg iter body [] pos) (fun σ h => (mi σ h).bind fun (xs, n, h1) => forL t n xs.length ms xs 0 σ h1) :=
  (ps_for hp hc hi hg hb hs).imp fun D σ H ⟨ρ, σd, h, f, σd', h', rs, rh, e, o⟩ => by
    cases ei : mi σd h with
    | none => simp [ei] at e
    | some p =>
      obtain ⟨xs, n, h1⟩ := p
      simp only [ei, Option.bind_some] at e
      refine ⟨ρ, σd, h, xs, n, h1, rs, rh, ei, fun J H1 ρ1 e1 r1 wk => ?_⟩
      refine ⟨fun i m σ H' => m = xs.length - i ∧ i ≤ xs.length ∧ ∃ ρ' sd hc, Ext ρ1 H1 ρ' H' ∧ RepS X.kw ρ' H' σ sd ∧ RepH X.kw ρ' H' hc ∧ forL t n xs.length ms (xs.drop i) i sd hc = some (f, σd', h'),
        ⟨xs.length, by simp, Nat.zero_le _, ρ1, σd, h1, Ext.refl _ _, rs.ext e1, r1, by simpa using e⟩, ?_⟩
      rintro i m σ2 H2 ⟨rfl, hi, ρ2, sd, hc, e2, rs2, r2, ew⟩
      by_cases hlt : i < xs.length
      · right
        rw [List.drop_eq_getElem_cons hlt] at ew
        simp only [forL] at ew
        split at ew
        case isFalse => cases ew
        rename_i ok
        cases ecu : cur n i xs[i] hc with
        | none => simp [ecu] at ew
        | some y =>
          simp only [ecu, Option.bind_some] at ew
          cases ept : put t y sd with
          | none => simp [ept] at ew
          | some s1 =>
            simp only [ept, Option.bind_some] at ew
            cases eb : ms s1 hc with
            | none => simp [eb] at ew
            | some p =>
              obtain ⟨f3, s3, h3⟩ := p
              simp only [eb, Option.bind_some] at ew
              obtain ⟨_, wi⟩ := wk ρ2 H2 hc i e2 r2 ok
              obtain ⟨go, yl⟩ := wi xs[i] y (List.getElem?_eq_getElem hlt) ecu
              refine ⟨go, fun σ' H' => ∃ ρ' sd hc, Ext ρ1 H1 ρ' H' ∧ RepS X.kw ρ' H' σ' sd ∧ RepH X.kw ρ' H' hc ∧ forL t n xs.length ms (xs.drop (i + 1)) (i + 1) sd hc = some (f, σd', h'), fun σ' H' z => ⟨xs.length - (i + 1), by omega, rfl, hlt, z⟩, fun v H' hy => ?_⟩
              obtain ⟨e4, r4, q4⟩ := yl v H' hy
              refine ⟨ρ2, sd, hc, y, s1, rs2.ext e4, r4, q4, ept, fun σ' rs' _ => ⟨ρ2, s1, hc, f3, s3, h3, rs', r4, eb, fun σ5 H5 ρ5 e5 rs5 r5 => ?_⟩⟩
              have et := e2.trans (e4.trans e5)
              cases f3 with
              | nx => exact ⟨ρ5, s3, h3, et, rs5, r5, ew⟩
              | ct => exact ⟨ρ5, s3, h3, et, rs5, r5, ew⟩
              | bk =>
                simp only [Option.some.injEq, Prod.mk.injEq] at ew
                obtain ⟨rfl, rfl, rfl⟩ := ew
                exact o σ5 H5 ρ5 (e1.trans et) rs5 r5
              | rt d =>
                simp only [Option.some.injEq, Prod.mk.injEq] at ew
                obtain ⟨rfl, rfl, rfl⟩ := ew
                exact o σ5 H5 ρ5 (e1.trans et) rs5 r5
      · left
        have hie : i = xs.length := by omega
        subst hie
        rw [List.drop_length] at ew
        simp only [forL] at ew
        split at ew
        case isFalse => cases ew
        rename_i ok
        simp only [Option.some.injEq, Prod.mk.injEq] at ew
        obtain ⟨rfl, rfl, rfl⟩ := ew
        exact ⟨(wk ρ2 H2 hc xs.length e2 r2 ok).1 rfl, o σ2 H2 ρ2 (e1.trans e2) rs2 r2⟩
end
end PyD

/-! PyE6: dicts whose keys are tuples: {k: v}, k in d, d[k] = v. -/
namespace PyD
open PySem PySem.Spec PyProof.Rows L2
theorem kyD_ok {d : D} (c : kyD d = true) : keyOk d = true ∧ depD d ≤ 8 ∧ ∃ ds, d = .tup ds := by
  simp only [kyD, Bool.and_eq_true, decide_eq_true_eq] at c
  refine ⟨c.1.1, c.1.2, ?_⟩
  cases d <;> simp [tupOf] at c
  exact ⟨_, rfl⟩
section
variable {K : Kw} {ρ ρ' : Rho} {H H' : Hp} {h : AH}
theorem RepH.setA (r : RepH K ρ H h) {k : Nat} {p : Addr} {ob : HO} {o' : AO} (hk : ρ.r[k]? = some p) (q : AOk K ρ (L2.upd H p ob) p o') : RepH K ρ (L2.upd H p ob) (h.set k o') := by
  have e : Ext ρ H ρ (L2.upd H p ob) := Ext.mut (List.mem_of_getElem? hk)
  refine ⟨by simp [r.len], r.nd, fun a m => ⟨(r.hid a m).1, e.there a (r.hid a m).2⟩, fun i a u e1 e2 => ?_⟩
  by_cases hi : i = k
  · subst hi
    rw [hk] at e1; cases e1
    have hl := (List.getElem?_eq_some_iff.mp hk).1
    rw [r.len] at hl
    rw [List.getElem?_set_self hl] at e2
    cases e2
    exact q
  · rw [List.getElem?_set_ne (Ne.symm hi)] at e2
    refine (r.obj i a u e1 e2).ext e (upd_ne fun z => hi ?_)
    subst z
    obtain ⟨h1, e1'⟩ := List.getElem?_eq_some_iff.mp e1
    obtain ⟨h2, e2'⟩ := List.getElem?_eq_some_iff.mp hk
    exact (List.getElem_inj r.nd).mp (e1'.trans e2'.symm)
mutual
/-- one more is named: no data see it -/
theorem DV.more {p : Addr} {φ : Heap → Prop} (hp : H p = some (HO.ext φ)) : ∀ (d : D) {v : V}, DV K ρ H d v → DV K (ρ.push p) H d v
  | .non, _, h => h
  | .bl _, _, h => h
  | .int _, _, h => h
  | .str _, _, h => h
  | .tup ds, _, h => by
    simp only [DV] at h ⊢
    obtain ⟨a, vs, e1, q, r⟩ := h
    refine ⟨a, vs, e1, q.elim (fun q => .inl ⟨q.1, fun m => ?_⟩) .inr, DVs.more hp ds r⟩
    rcases m with m | m
    · rcases List.mem_append.mp m with m | m
      · exact q.2 (.inl m)
      · cases List.mem_singleton.mp m
        rcases q.1 with z | ⟨o, z⟩ <;> (rw [hp] at z; cases z)
    · exact q.2 (.inr m)
  | .lst ds, _, h => by
    simp only [DV] at h ⊢
    obtain ⟨a, vs, e1, q, r⟩ := h
    refine ⟨a, vs, e1, ⟨q.1, fun m => ?_⟩, DVs.more hp ds r⟩
    rcases m with m | m
    · rcases List.mem_append.mp m with m | m
      · exact q.2 (.inl m)
      · cases List.mem_singleton.mp m
        have z := q.1
        rw [hp] at z; cases z
    · exact q.2 (.inr m)
  | .rol ds, _, h => by
    simp only [DV] at h ⊢
    obtain ⟨a, vs, e1, q, r⟩ := h
    refine ⟨a, vs, e1, q.elim (fun q => .inl ⟨q.1, fun m => ?_⟩) .inr, DVs.more hp ds r⟩
    rcases m with m | m
    · rcases List.mem_append.mp m with m | m
      · exact q.2 (.inl m)
      · cases List.mem_singleton.mp m
        rcases q.1 with z | ⟨o, z⟩ <;> (rw [hp] at z; cases z)
    · exact q.2 (.inr m)
  | .ref k, _, h => by
    simp only [DV] at h ⊢
    obtain ⟨a, e1, e2⟩ := h
    refine ⟨a, e1, ?_⟩
    show (ρ.r ++ [p])[k]? = some a
    rw [List.getElem?_append_left (List.getElem?_eq_some_iff.mp e2).1]; exact e2
theorem DVs.more {p : Addr} {φ : Heap → Prop} (hp : H p = some (HO.ext φ)) : ∀ (ds : List D) {vs : List V}, DVs K ρ H ds vs → DVs K (ρ.push p) H ds vs
  | [], _, h => h
  | d :: ds, _, h => by
    simp only [DVs] at h ⊢
    obtain ⟨v, r, e1, q, z⟩ := h
    exact ⟨v, r, e1, DV.more hp d q, DVs.more hp ds z⟩
end
theorem EOk.more {p : Addr} {φ : Heap → Prop} (hp : H p = some (HO.ext φ)) {x : D × D} {y : NestedKey × Addr × Value} (h : EOk K ρ H x y) : EOk K (ρ.push p) H x y :=
  let ⟨c, n, k, v, y, r⟩ := h; ⟨c, n, DV.more hp _ k, v, DV.more hp _ y, r⟩
theorem AOk.more {p a : Addr} {φ : Heap → Prop} (hp : H p = Option.some (HO.ext φ)) {o : AO} (q : AOk K ρ H a o) : AOk K (ρ.push p) H a o := by
  cases o with
  | lst ds => obtain ⟨vs, e1, r⟩ := q; exact ⟨vs, e1, DVs.more hp ds r⟩
  | dct kvs => obtain ⟨z, xs, r, e1⟩ := q; exact ⟨z, xs, Paired.mapP r fun _ _ y => y.more hp, e1⟩
  | ids ks => exact q
theorem RepH.shown (r : RepH K ρ H h) {p : Addr} {φ : Heap → Prop} {o' : AO} (np : p ∉ ρ) (hp : H p = some (HO.ext φ)) (q : AOk K (ρ.push p) H p o') : RepH K (ρ.push p) H (h ++ [o']) := by
  refine ⟨by simp [Rho.push, r.len], ?_, fun a m => ⟨fun z => ?_, (r.hid a m).2⟩, fun i a u e1 e2 => ?_⟩
  · show (ρ.r ++ [p]).Nodup
    rw [List.nodup_append]
    refine ⟨r.nd, by simp, fun a ha b hb => ?_⟩
    cases List.mem_singleton.mp hb
    intro z; subst z
    exact np (.inl ha)
  · rcases List.mem_append.mp z with z | z
    · exact (r.hid a m).1 z
    · cases List.mem_singleton.mp z
      exact np (.inr m)
  · have e1 : (ρ.r ++ [p])[i]? = some a := e1
    by_cases hi : i < ρ.r.length
    · rw [List.getElem?_append_left hi] at e1
      rw [List.getElem?_append_left (by rw [← r.len]; exact hi)] at e2
      exact (r.obj i a u e1 e2).more hp
    · have h1 : i = ρ.r.length := by
        have := (List.getElem?_eq_some_iff.mp e1).1
        simp at this; omega
      subst h1
      rw [List.getElem?_append_right (Nat.le_refl _)] at e1
      rw [List.getElem?_append_right (by rw [r.len]; exact Nat.le_refl _)] at e2
      simp [r.len] at e1 e2
      subst e1; subst e2
      exact q
theorem Ext.shown {p : Addr} (e : Ext ρ H ρ' H') (n : H p = none) : Ext ρ H (ρ'.push p) H' := by
  obtain ⟨t, u, rfl, ht, hu⟩ := e.more
  refine ⟨⟨t ++ [p], u, by simp [Rho.push], fun a m => ?_, hu⟩, e.keep, e.there⟩
  rcases List.mem_append.mp m with m | m
  · exact ht a m
  · cases List.mem_singleton.mp m; exact n
/-! ### the entries, by key -/
theorem ent_get {kvs : List (D × D)} {xs : List (NestedKey × Addr × Value)} (r : Paired (EOk K ρ H) kvs xs) {k : D} (c : keyOk k = true) : (dget kvs k).isSome = (atKey xs (nk k)).isSome := by
  induction r with
  | nil => rfl
  | @cons p q ps qs h t ih =>
    obtain ⟨h1, h2, _⟩ := h
    have e := nk_eq (kyD_ok h1).1 c
    unfold dget atKey at ih ⊢
    simp only [List.find?_cons, h2, e]
    cases eqD p.1 k with
    | true => rfl
    | false => exact ih
theorem ent_put {kvs : List (D × D)} {xs : List (NestedKey × Addr × Value)} (r : Paired (EOk K ρ H) kvs xs) {k d : D} {a : Addr} {u : Value} (hk : EOk K ρ H (k, d) (nk k, a, u)) : Paired (EOk K ρ H) (dput kvs k d) (storedH xs (nk k) a u) := by
  have c := (kyD_ok hk.1).1
  unfold dput storedH
  rw [ent_get r c]
  by_cases q : (atKey xs (nk k)).isSome = true
  · rw [if_pos q, if_pos q]
    clear q
    induction r with
    | nil => exact .nil
    | @cons x y ps qs h t ih =>
      rw [List.map_cons, List.map_cons]
      refine .cons ?_ ih
      obtain ⟨h1, h2, h3, h4⟩ := h
      have e := nk_eq (kyD_ok h1).1 c
      unfold putAt
      cases b : eqD x.1 k with
      | true =>
        rw [b] at e
        rw [if_pos rfl, if_pos (h2.trans (of_decide_eq_true e))]
        exact ⟨h1, h2, h3, hk.2.2.2⟩
      | false =>
        rw [b] at e
        rw [if_neg Bool.false_ne_true, if_neg (fun z => of_decide_eq_false e (h2.symm.trans z))]
        exact ⟨h1, h2, h3, h4⟩
  · rw [if_neg q, if_neg q]
    exact Paired.snoc r hk
end
section
variable {X : Cx} {pins : List (Addr × Obj)} {σ : L2.St} {H : Hp} {s : Shared} {ρ : Rho} {h : AH}
theorem dct_keys (I : Inv X pins σ H s) {kvs : List (D × D)} {xs : List (NestedKey × Addr × Value)} (r : Paired (EOk X.kw ρ H) kvs xs) : ∀ x ∈ xs, (nestedKind X.prog X.w).is s.heap x.1 x.2.1 := by
  induction r with
  | nil => intro x hx; cases hx
  | @cons p q ps qs h t ih =>
    intro x hx
    rcases List.mem_cons.mp hx with e | hx
    · subst e
      obtain ⟨h1, h2, h3, h4⟩ := h
      obtain ⟨c1, c2, _⟩ := kyD_ok h1
      refine ⟨?_, ?_⟩
      · rw [h2]; exact nk_is I p.1 c1 h3 rfl
      · rw [h2, nk_dep p.1 c1]; exact c2
    · exact ih x hx
theorem dct_of (I : Inv X pins σ H s) {a : Addr} {kvs : List (D × D)} (q : AOk X.kw ρ H a (.dct kvs)) :
    (a == sysModules) = false ∧ ∃ xs, Paired (EOk X.kw ρ H) kvs xs ∧ H a = some (.ext (dctPhi X.w a xs)) ∧ s.heap.DictOfH (nestedKind X.prog X.w) a xs := by
  obtain ⟨z, xs, r, e⟩ := q
  refine ⟨z, xs, r, e, ?_⟩
  obtain ⟨⟨o, es, ep, h1, h2, h3, h4, h5⟩, _, _⟩ := (show ObjOk X.prog X.w H s.heap a (.ext (dctPhi X.w a xs)) from I.hok a _ e)
  exact ⟨o, es, ep, h1, h2, h3, h4, dct_keys I r, h5⟩
theorem key_at (I : Inv X pins σ H s) {k : D} {y : V} {u : Value} (c : kyD k = true) (q : DV X.kw ρ H k y) (ru : RelV y u) : ∃ b, u = .ref b ∧ y = .ref b ∧ (nestedKind X.prog X.w).is s.heap (nk k) b := by
  obtain ⟨c1, c2, ds, rfl⟩ := kyD_ok c
  obtain ⟨b, vs, rfl, z, qs⟩ := q.t
  cases (show u = Value.ref b from ru)
  exact ⟨b, rfl, rfl, nk_is I _ c1 q rfl, by rw [nk_dep _ c1]; exact c2⟩
theorem ext_new {P : Program} {w : World} {H' : Hp} {h' : Heap} {a : Addr} {xs : List (NestedKey × Addr × Value)} (dd : h'.DictOfH (nestedKind P w) a xs) : ObjOk P w H' h' a (.ext (dctPhi w a xs)) := by
  obtain ⟨o, es, ep, h1, h2, h3, h4, _, h5⟩ := dd
  exact ⟨⟨o, es, ep, h1, h2, h3, h4, h5⟩, ⟨o, h1⟩, fun g1 g2 ⟨o', es', ep', e1, e2⟩ k => ⟨o', es', ep', k o' e1, e2⟩⟩
/-! ### k in d -/
def inB (ng : Bool) : D → D → AH → Option D := fun x y h => (dctOf y h).bind fun kvs => if kyD x then some (.bl ((dget kvs x).isSome != ng)) else none
theorem dctOf_at (r : RepH X.kw ρ H h) {b : D} {kvs : List (D × D)} {y : V} (q : DV X.kw ρ H b y) (e : dctOf b h = some kvs) : ∃ n a, b = .ref n ∧ h[n]? = some (.dct kvs) ∧ y = .ref a ∧ ρ.r[n]? = some a ∧ AOk X.kw ρ H a (.dct kvs) := by
  cases b with
  | ref n =>
    simp only [dctOf] at e
    cases en : h[n]? with
    | none => rw [en] at e; cases e
    | some ob =>
      cases ob with
      | lst ds => rw [en] at e; cases e
      | ids ks => rw [en] at e; cases e
      | dct kv =>
        rw [en] at e
        cases e
        obtain ⟨a, rfl, ha⟩ := q.r
        obtain ⟨o2, e2, ok⟩ := r.at' ha
        rw [en] at e2; cases e2
        exact ⟨n, a, rfl, en, rfl, ha, ok⟩
  | _ => cases e
theorem op_inDct (hu : X.A.units + 64 < cLine) : OpR X (compareOp .In) (rB X.kw (inB false)) := by
  intro pins s σ H x y v u Q I rx ry ⟨ρ, h, a, b, d, rh, qa, qb, e, o⟩
  simp only [inB] at e
  cases ei : dctOf b h with
  | none => simp [ei] at e
  | some kvs =>
    simp only [ei, Option.bind_some] at e
    split at e
    case isFalse => cases e
    rename_i hk
    cases e
    obtain ⟨n, p, rfl, en, rfl, hp, ok⟩ := dctOf_at rh qb ei
    cases (show u = Value.ref p from ry)
    obtain ⟨z, xs, r, eH, dd⟩ := dct_of I ok
    obtain ⟨b, rfl, rfl, hb⟩ := key_at I hk qa rx
    refine wpAny_in_heap (show X.A.in1.units + 8 < cLine from by show X.A.units + 1 + 8 < cLine; omega) hb z dd ?_
    rw [← ent_get r (kyD_ok hk).1]
    refine ⟨.bl (dget kvs a).isSome, H, I.tok _, rfl, ?_⟩
    have := o.here rh (DV.bl' _)
    simpa using this
theorem op_notinDct (hu : X.A.units + 64 < cLine) : OpR X (compareOp .NotIn) (rB X.kw (inB true)) := by
  intro pins s σ H x y v u Q I rx ry ⟨ρ, h, a, b, d, rh, qa, qb, e, o⟩
  simp only [inB] at e
  cases ei : dctOf b h with
  | none => simp [ei] at e
  | some kvs =>
    simp only [ei, Option.bind_some] at e
    split at e
    case isFalse => cases e
    rename_i hk
    cases e
    obtain ⟨n, p, rfl, en, rfl, hp, ok⟩ := dctOf_at rh qb ei
    cases (show u = Value.ref p from ry)
    obtain ⟨z, xs, r, eH, dd⟩ := dct_of I ok
    obtain ⟨b, rfl, rfl, hb⟩ := key_at I hk qa rx
    refine wpAny_notIn_heap (show X.A.in1.units + 8 < cLine from by show X.A.units + 1 + 8 < cLine; omega) hb z dd ?_
    rw [← ent_get r (kyD_ok hk).1]
    refine ⟨.bl (!(dget kvs a).isSome), H, I.tok _, rfl, ?_⟩
    have := o.here rh (DV.bl' _)
    simpa using this
end
section
variable {X : Cx} {e a b : Expr} {es : List Expr} {pos p : Pos} {m ma mb mc : Sl → AH → Option (D × AH)}
abbrev mIn (ng : Bool) (ma mb : Sl → AH → Option (D × AH)) : Sl → AH → Option (D × AH) := fun σ h => (ma σ h).bind fun (x, h1) => (mb σ h1).bind fun (y, h2) => (dctOf y h2).bind fun kvs => if kyD x then some (.bl ((dget kvs x).isSome != ng), h2) else none
def inP (ng : Bool) : CmpOp := if ng then .NotIn else .In
theorem op_inP (hu : X.A.units + 64 < cLine) (ng : Bool) : OpR X (compareOp (inP ng)) (rB X.kw (inB ng)) := by
  cases ng
  · exact op_inDct hu
  · exact op_notinDct hu
theorem mIn_eq (ng : Bool) (σ : Sl) (h : AH) : mIn ng ma mb σ h = (ma σ h).bind fun (x, h1) => (mb σ h1).bind fun (y, h2) => (inB ng x y h2).bind fun z => some (z, h2) := by
  unfold mIn inB
  cases ma σ h with
  | none => rfl
  | some p =>
    obtain ⟨x, h1⟩ := p
    simp only [Option.bind_some]
    cases mb σ h1 with
    | none => rfl
    | some p =>
      obtain ⟨y, h2⟩ := p
      simp only [Option.bind_some]
      cases dctOf y h2 with
      | none => rfl
      | some kvs =>
        simp only [Option.bind_some]
        split <;> rfl
theorem re_inD {ng : Bool} (hu : X.A.units + 64 < cLine) (ha : RE X a ma) (hb : RE X b mb) (hm : behindInMarks (inP ng) b = false) : RE X (.Compare a [inP ng] [b] pos) (mIn ng ma mb) :=
  (pe_cmpR (op_inP hu ng) ha hb hm).imp fun σ H Q ⟨ρ, σd, h, d, h', rs, rh, e, o⟩ => tOp_imp (g := inB ng) σ H Q ⟨ρ, σd, h, d, h', rs, rh, (mIn_eq ng σd h).symm.trans e, o⟩
theorem rt_inD {ng : Bool} (hu : X.A.units + 64 < cLine) (ha : RE X a ma) (hb : RE X b mb) (hm : behindInMarks (inP ng) b = false) : RT X (.Compare a [inP ng] [b] pos) (tstM (mIn ng ma mb)) :=
  (pt_cmpR (op_inP hu ng) ha hb hm).imp fun σ H Q ⟨ρ, σd, h, d, h', rs, rh, e, o⟩ => by
    simp only [tstM, mIn_eq] at e
    cases ea : ma σd h with
    | none => simp [ea] at e
    | some p =>
      obtain ⟨x, h1⟩ := p
      cases eb : mb σd h1 with
      | none => simp [ea, eb] at e
      | some p =>
        obtain ⟨y, h2⟩ := p
        cases eg : inB ng x y h2 with
        | none => simp [ea, eb, eg] at e
        | some z =>
          obtain ⟨k, rfl⟩ : ∃ k, z = .bl k := by
            unfold inB at eg
            cases eq : dctOf y h2 with
            | none => simp [eq] at eg
            | some kvs =>
              simp only [eq, Option.bind_some] at eg
              split at eg
              · cases eg; exact ⟨_, rfl⟩
              · cases eg
          simp [ea, eb, eg, truth] at e
          obtain ⟨rfl, rfl⟩ := e
          exact ⟨ρ, σd, h, x, h1, rs, rh, ea, fun v H1 ρ1 e1 r1 q1 => ⟨ρ1, σd, h1, y, h2, rs.ext e1, r1, eb, fun w H2 ρ2 e2 r2 q2 => ⟨ρ2, h2, x, y, .bl k, r2, DV.ext e2 x q1, q2, eg, fun z H3 ρ3 e3 r3 q3 => ⟨k, q3.b, o H3 ρ3 (e1.trans (e2.trans e3)) r3⟩⟩⟩⟩
/-! ### d[k] = v -/
def rSetD (K : Kw) : TSet := fun o i v H Q => ∃ ρ h n kvs k d a, RepH K ρ H h ∧ ρ.r[n]? = some a ∧ o = .ref a ∧ h[n]? = some (.dct kvs) ∧ DV K ρ H k i ∧ kyD k = true ∧ kvs.length < lim ∧ DV K ρ H d v ∧
  ∀ H', Ext ρ H ρ H' → RepH K ρ H' (h.set n (.dct (dput kvs k d))) → Q H'
theorem set_dct (hu : X.A.units + 64 < cLine) : PSet X (rSetD X.kw) := by
  intro pins s σ H o i v ov iv u Q I ro ri rv ⟨ρ, h, n, kvs, k, d, a, rh, hn, eo, en, qk, ck, hl, qd, q⟩
  subst eo
  cases (show ov = Value.ref a from ro)
  obtain ⟨o2, e2, ok⟩ := rh.at' hn
  rw [en] at e2; cases e2
  obtain ⟨z, xs, r, eH, dd⟩ := dct_of I ok
  obtain ⟨b, rfl, rfl, hb⟩ := key_at I ck qk ri
  have hx : xs.length < sizeLine := by rw [← Paired.length r, lim_eq]; exact hl
  refine wpAny_setItem_heap (hsz := Nat.le_of_lt hx) (show X.A.in1.units + 8 < cLine from by show X.A.units + 1 + 8 < cLine; omega) hb dd fun h' dd' hs => ?_
  have he : ∃ q, h'.get? a = some q := let ⟨q, _, _, hq, _⟩ := dd'; ⟨q, hq⟩
  have mem : a ∈ ρ := Rho.mem_get hn
  refine ⟨_, d_write I (by rw [eH]; exact True.intro) hs he (ext_new dd'), q _ (Ext.mut (List.mem_of_getElem? hn)) (rh.setA hn ⟨z, _, ?_, upd_same⟩)⟩
  exact Paired.mapP (ent_put r ⟨ck, rfl, qk, v, qd, rv⟩) fun _ _ ⟨c, n, k, v, y, r⟩ => ⟨c, n, DV.upd mem _ k, v, DV.upd mem _ y, r⟩
theorem rs_setD {o i : Expr} {mo mi : Sl → AH → Option (D × AH)} {tpos : Pos} (hu : X.A.units + 64 < cLine) (hv : RE X e m) (ho : RE X o mo) (hi : RE X i mi) (hp : plainE i = true) (hn : notComp e = true) :
    RS X (.Assign [.Subscript o i tpos] e pos) (fun σ h => (m σ h).bind fun (d, h1) => (mo σ h1).bind fun (x, h2) => (mi σ h2).bind fun (y, h3) => match x with
      | .ref n => (match h3[n]? with
        | some (.dct kvs) => if kyD y && decide (kvs.length < lim) then some (.nx, σ, h3.set n (.dct (dput kvs y d))) else none
        | _ => none)
      | _ => none) := by
  have hasg : ∀ v, assign (.Subscript o i tpos) X.env v = (do
      let ov ← holding [v] (eval o X.env)
      let iv ← holding [v, ov] (eval i X.env)
      standAt tpos
      holding [v, ov, iv] (setItem ov iv v)
      release [v, ov, iv] []) := by
    intro v
    cases i <;> first | rfl | simp [plainE] at hp
  have hsw : swappedStores [.Subscript o i tpos] e X.env = pure none := by cases e <;> rfl
  refine (ps_asg (pos := pos) hv (pg_sub ho hi (set_dct hu) hasg) (show swapsWith e (some (.Subscript o i tpos)) pos.line X.env = pure false from swaps_no hn _ _ _) hsw rfl).imp fun D σ H ⟨ρ, σd, h, f, σd', h', rs, rh, e, o⟩ => ?_
  cases ea : m σd h with
  | none => simp [ea] at e
  | some p =>
    obtain ⟨d, h1⟩ := p
    cases eb : mo σd h1 with
    | none => simp [ea, eb] at e
    | some p =>
      obtain ⟨x, h2⟩ := p
      cases ec : mi σd h2 with
      | none => simp [ea, eb, ec] at e
      | some p =>
        obtain ⟨y, h3⟩ := p
        cases x with
        | ref n =>
            cases en : h3[n]? with
            | none => simp [ea, eb, ec, en] at e
            | some ob =>
              cases ob with
              | lst ds => simp [ea, eb, ec, en] at e
              | ids ks => simp [ea, eb, ec, en] at e
              | dct kvs =>
                simp only [ea, eb, ec, en, Option.bind_some] at e
                split at e
                case isFalse => cases e
                rename_i hz
                rw [Bool.and_eq_true, decide_eq_true_eq] at hz
                simp only [Option.some.injEq, Prod.mk.injEq] at e
                obtain ⟨rfl, rfl, rfl⟩ := e
                refine ⟨ρ, σd, h, d, h1, rs, rh, ea, fun v H1 ρ1 e1 r1 q1 => ⟨ρ1, σd, h1, _, h2, rs.ext e1, r1, eb, fun w H2 ρ2 e2 r2 q2 => ⟨ρ2, σd, h2, _, h3, rs.ext (e1.trans e2), r2, ec, fun u H3 ρ3 e3 r3 q3 => ?_⟩⟩⟩
                obtain ⟨l, rfl, hl⟩ := (DV.ext e3 _ q2).r
                refine ⟨ρ3, h3, n, kvs, y, d, l, r3, hl, rfl, en, q3, hz.1, hz.2, DV.ext (e2.trans e3) _ q1, fun H4 e4 r4 => ?_⟩
                have et := e1.trans (e2.trans (e3.trans e4))
                exact o _ _ ρ3 et (rs.ext et) r4
        | _ => simp [ea, eb, ec] at e
/-! ### {k: v} -/
theorem dict1_walk {prog : Program} {w : World} {A : Around} {E : Value → Shared → Prop} {s : Shared} {env : Env} {k v : Expr} {Q : Value → Shared → Prop}
    (h : wpAny (model prog w) A (eval k env) (fun kv s1 => wpAny (model prog w) A (eval v env) (fun vv s2 => wpAny (model prog w) A (dictSet s.heap.objs.size kv vv) (fun _ s3 => Q (.ref s.heap.objs.size) s3) E s2) E s1) E
      { s with heap := s.heap.push { cls := .type "dict", data := .dict #[] } }) : wpAny (model prog w) A (eval (.Dict [some k] [v] pos) env) Q E s := by
  rw [arm_eval_Dict, zip_pairTrees [some k] [v] env pos rfl rfl, dictDisplay_pairs (pairTrees [some k] [v] env pos) (by simp [pairTrees]) (by simp [pairTrees])]
  refine wpAny_bind (wpAny_standAt (wpAny_bind ?_))
  unfold subDict
  refine wpAny_bind (wpAny_alloc ?_)
  refine wpAny_bind (wpAny_holding ?_)
  rw [if_pos (by simp [pairTrees])]
  refine wpAny_bind (pairTrees_cons_walk (wpAny_mono h (fun kv s1 h1 => wpAny_mono h1 (fun vv s2 h2 => pairTrees_nil_walk ?_) fun _ _ x => x) fun _ _ x => x))
  refine wpAny_holding ?_
  show wpAny _ _ (forIn [(kv, vv)] _ _ >>= _) _ _ _
  rw [List.forIn_cons]
  refine wpAny_bind (wpAny_bind (wpAny_bind (wpAny_mono h2 (fun _ s3 h3 => ?_) fun _ _ x => x)))
  exact wpAny_pure (by
    show wpAny _ _ (forIn ([] : List (Value × Value)) PUnit.unit _) _ _ _
    rw [List.forIn_nil]
    exact wpAny_pure (wpAny_pure (wpAny_pure (wpAny_pure h3))))
theorem re_dct1 (hu : X.A.units + 64 < cLine) (ha : RE X a ma) (hb : RE X b mb) : RE X (.Dict [some a] [b] pos) (fun σ h => (ma σ h).bind fun (x, h1) => (mb σ h1).bind fun (y, h2) => if kyD x then some (.ref h2.length, h2 ++ [.dct [(x, y)]]) else none) := by
  refine ⟨fun pins s σ H Q I ⟨ρ, σd, h, d, h', rs, rh, e, o⟩ => ?_⟩
  cases ea : ma σd h with
  | none => simp [ea] at e
  | some pr =>
    obtain ⟨x, h1⟩ := pr
    cases eb : mb σd h1 with
    | none => simp [ea, eb] at e
    | some pr =>
      obtain ⟨y, h2⟩ := pr
      simp only [ea, eb, Option.bind_some] at e
      split at e
      case isFalse => cases e
      rename_i hk
      simp only [Option.some.injEq, Prod.mk.injEq] at e
      obtain ⟨rfl, rfl⟩ := e
      have hn := I.hok.fresh (Nat.le_refl s.heap.objs.size)
      have hz : (s.heap.objs.size == sysModules) = false := beq_eq_false_iff_ne.mpr (Ne.symm (Nat.ne_of_lt I.big))
      have I1 := I.laid (a := s.heap.objs.size) (o := .ext (dctPhi X.w s.heap.objs.size [])) (h' := s.heap.push { cls := .type "dict", data := .dict #[] }) (t' := s.toks) (fun _ _ q => Heap.get?_push_of_some _ q) (Nat.le_refl _) (ext_new (P := X.prog) (Heap.DictOfH.new s.heap))
      generalize hp : s.heap.objs.size = p at *
      have e0 : Ext ρ H (ρ.hide p) (upd H p (.ext (dctPhi X.w p []))) := Ext.hide hn
      have np : p ∉ ρ := rh.notMem hn
      refine dict1_walk ?_
      rw [hp]
      refine thn (ha.run pins _ σ _ (fun v H1 => ∃ ρ1, Ext (ρ.hide p) (upd H p (.ext (dctPhi X.w p []))) ρ1 H1 ∧ RepH X.kw ρ1 H1 h1 ∧ DV X.kw ρ1 H1 x v) I1 ⟨ρ.hide p, σd, h, x, h1, rs.ext e0, rh.hide hn, ea, fun v H1 ρ1 e1 r1 q1 => ⟨ρ1, e1, r1, q1⟩⟩) fun kv s1 ⟨v, H1, I2, rv, ρ1, e1, r1, q1⟩ => ?_
      refine thn (hb.run pins _ σ _ (fun w H2 => ∃ ρ2, Ext ρ1 H1 ρ2 H2 ∧ RepH X.kw ρ2 H2 h2 ∧ DV X.kw ρ2 H2 y w) I2 ⟨ρ1, σd, h1, y, h2, rs.ext (e0.trans e1), r1, eb, fun w H2 ρ2 e2 r2 q2 => ⟨ρ2, e2, r2, q2⟩⟩) fun vv s2 ⟨w, H2, I3, rw, ρ2, e2, r2, q2⟩ => ?_
      · skip
        have e02 := e0.trans (e1.trans e2)
        have mw : p ∈ ρ2.w := (e1.trans e2).hidden (List.mem_cons_self ..)
        have nr : p ∉ ρ2.r := (r2.hid p mw).1
        have eH : H2 p = some (.ext (dctPhi X.w p [])) := (e1.trans e2).keep p _ upd_same (fun m => np (.inl m))
        have q1' := DV.ext e2 _ q1
        obtain ⟨⟨ob, es, ep, g1, g2, g3, g4, g5⟩, _, _⟩ := (show ObjOk X.prog X.w H2 s2.heap p (.ext (dctPhi X.w p [])) from I3.hok p _ eH)
        have dd : s2.heap.DictOfH (nestedKind X.prog X.w) p [] := ⟨ob, es, ep, g1, g2, g3, g4, (fun x hx => by cases hx), g5⟩
        obtain ⟨b', rfl, rfl, hb'⟩ := key_at I3 hk q1' rv
        refine wpAny_dictSet_heap (hsz := Nat.zero_le _) (show X.A.units + 8 < cLine from by omega) hb' dd fun h' dd' hs => ?_
        have he : ∃ q, h'.get? p = some q := let ⟨q, _, _, hq, _⟩ := dd'; ⟨q, hq⟩
        have I4 := d_write (t' := s2.toks + (nestedKind X.prog X.w).draws (nk x)) I3 (by rw [eH]; exact True.intro) hs he (ext_new (H' := upd H2 p (.ext (dctPhi X.w p (storedH [] (nk x) b' vv)))) dd')
        obtain ⟨ρf, f1, f2, f3, f4⟩ := Ext.show (e02.updw hn) hn nr (fun m => np (.inr m))
        have rf : RepH X.kw ρf (upd H2 p (.ext (dctPhi X.w p (storedH [] (nk x) b' vv)))) h2 := (r2.updw mw).less f3 f4
        have tr : ∀ {d v}, DV X.kw ρ2 H2 d v → DV X.kw (ρf.push p) (upd H2 p (.ext (dctPhi X.w p (storedH [] (nk x) b' vv)))) d v := fun q => DV.more upd_same _ (DV.less f3 f4 _ (DV.upd (.inr mw) _ q))
        refine ⟨.ref p, _, I4, rfl, o _ _ (ρf.push p) (f1.shown hn) (rf.shown f2 upd_same ⟨hz, _, ?_, upd_same⟩) ?_⟩
        · exact .cons ⟨hk, rfl, tr q1', w, tr q2, rw⟩ .nil
        · simp only [DV]
          exact ⟨p, rfl, by show (ρf.r ++ [p])[h2.length]? = some p; rw [← rf.len]; simp⟩
end
end PyD

/-! PyE7: dicts of ints, sorted(..), in a tuple of values of any depth. -/
namespace PyD
open PySem PySem.Spec PyProof.Rows L2
/-! ### sorting -/
theorem insI_perm (x : Int) : ∀ l : List Int, (insI x l).Perm (x :: l)
  | [] => .refl _
  | y :: ys => by
    unfold insI
    split
    · exact .refl _
    · exact ((insI_perm x ys).cons y).trans (.swap x y ys)
theorem isort_perm : ∀ l : List Int, (isort l).Perm l
  | [] => .refl _
  | x :: xs => (insI_perm x (isort xs)).trans ((isort_perm xs).cons x)
theorem insI_pw (x : Int) : ∀ l : List Int, l.Pairwise (· ≤ ·) → (insI x l).Pairwise (· ≤ ·)
  | [], _ => by simp [insI]
  | y :: ys, h => by
    obtain ⟨h1, h2⟩ := List.pairwise_cons.mp h
    unfold insI
    split
    case isTrue hx =>
      refine List.pairwise_cons.mpr ⟨fun z hz => ?_, h⟩
      rcases List.mem_cons.mp hz with rfl | hz
      · exact hx
      · exact Int.le_trans hx (h1 z hz)
    case isFalse hx =>
      refine List.pairwise_cons.mpr ⟨fun z hz => ?_, insI_pw x ys h2⟩
      rcases List.mem_cons.mp ((insI_perm x ys).mem_iff.mp hz) with rfl | hz
      · omega
      · exact h1 z hz
theorem isort_pw : ∀ l : List Int, (isort l).Pairwise (· ≤ ·)
  | [] => .nil
  | x :: xs => insI_pw x _ (isort_pw xs)
theorem isort_only {l r : List Int} (p : r.Perm l) (q : r.Pairwise (· ≤ ·)) : r = isort l :=
  List.Perm.eq_of_pairwise (le := (· ≤ ·)) (fun a b _ _ h1 h2 => Int.le_antisymm h1 h2) q (isort_pw l) (p.trans (isort_perm l).symm)
theorem intsOf_map : ∀ {ds : List D} {ns : List Int}, intsOf ds = some ns → ds = ns.map .int
  | [], _, e => by simp only [intsOf, Option.some.injEq] at e; subst e; rfl
  | d :: ds, ns, e => by
    cases d with
    | int i =>
      simp only [intsOf, Option.map_eq_some_iff] at e
      obtain ⟨r, er, rfl⟩ := e
      rw [intsOf_map er]; rfl
    | _ => simp [intsOf] at e
def idV (k : Int) : Key × V := (Sum.inl k, V.bl true)
def rSrt (K : PySem.W.Frag) : List V → Hp → VK → Prop := fun vs H Q => ∃ (a : Addr) (ns : List Int), vs = [V.ref a] ∧ (SqL K H a (ns.map V.int) ∨ (H a = some (.dK (ns.map fun k => (Sum.inl k, V.bl true))) ∧ ns.length < 64)) ∧
  ∀ (p : Addr), H p = none → Q (.ref p) (upd H p (.lst ((isort ns).map V.int)))
section
variable {X : Cx} {e a b : Expr} {es : List Expr} {pos p : Pos} {m ma mb mc : Sl → AH → Option (D × AH)} {K : Kw} {ρ ρ' : Rho} {H H' : Hp} {h : AH}
theorem call_srt (hc : X.calm = true) : CallR X (.builtin "sorted") (rSrt X.K) := by
  intro pins s σ H vs us Q I r ⟨a, ns, ev, hs, q⟩
  rcases hs with hs | ⟨hs, hl⟩
  · exact cr_sortedI pins s σ H vs us Q I r ⟨a, ns, ev, hs, fun ns' p h1 h2 h3 => by rw [isort_only h1 h2]; exact q p h3⟩
  · exact call_sortedDI hc pins s σ H vs us Q I r ⟨a, _, ns, ev, .inl hs, by rw [List.map_map]; rfl, hl, fun ns' p h1 h2 h3 => by rw [isort_only h1 h2]; exact q p h3⟩
theorem rf_srt (hc : X.calm = true) (hg : Gl X "sorted") (hm : X.mg "sorted" = none) (ha : RE X a ma) (hp : plainE a = true) : RF X (.Call (.Name "sorted" p) [a] [] pos) (fun σ h => (ma σ h).bind fun (x, h1) => (sortOf x h1).bind fun ks => some ((isort ks).map .int, h1)) :=
  (pe_callB (call_srt hc) hg hm (by decide +kernel) (pa_cons ha pa_nil (star_cons hp _ _)) (by decide) (by decide) (star_cons hp _ _) rfl).imp fun σ H Q ⟨ρ, σd, h, d, h', rs, rh, e, o⟩ => by
    cases ea : ma σd h with
    | none => simp [ea] at e
    | some p =>
      obtain ⟨x, h1⟩ := p
      cases ei : sortOf x h1 with
      | none => simp [ea, ei] at e
      | some ns =>
        simp [ea, ei] at e
        obtain ⟨rfl, rfl⟩ := e
        refine ⟨ρ, σd, h, x, h1, rs, rh, ea, fun v H1 ρ1 e1 r1 q1 => ?_⟩
        have fin : ∀ l, H1 l = none → Q (.ref l) (upd H1 l (.lst ((isort ns).map V.int))) := fun l n => o l _ H1 ρ1 e1 r1 n (DVs.of_ints _)
        cases x with
        | lst ds =>
          simp only [sortOf] at ei
          obtain ⟨a, vs, rfl, z, y⟩ := q1.l
          rw [intsOf_map ei] at y
          rw [y.ints] at z
          exact ⟨a, ns, rfl, .inl (QL.sq (K := X.kw) z), fin⟩
        | ref n =>
          simp only [sortOf] at ei
          obtain ⟨a, rfl, z⟩ := q1.r
          obtain ⟨ob, e2, ok⟩ := r1.at' z
          rw [e2] at ei
          cases ob with
          | dct kvs => simp at ei
          | lst ds =>
            simp only at ei
            obtain ⟨vs, e3, y⟩ := ok
            rw [intsOf_map ei] at y
            rw [y.ints] at e3
            exact ⟨a, ns, rfl, .inl (.of e3), fin⟩
          | ids ks =>
            simp only at ei
            split at ei
            case isFalse => cases ei
            rename_i hz
            cases ei
            exact ⟨a, ns, rfl, .inr ⟨ok, hz⟩, fin⟩
        | _ => simp [sortOf] at ei
/-! ### {} -/
theorem RepH.pushI (r : RepH K ρ H h) {p : Addr} (n : H p = none) : RepH K (ρ.push p) (upd H p (.dK [])) (h ++ [.ids []]) := by
  have np : p ∉ ρ.r := fun z => r.notMem n (.inl z)
  refine ⟨by simp [Rho.push, r.len], ?_, fun a m => ⟨fun z => ?_, (Ext.fresh (ρ := ρ) n).there a (r.hid a m).2⟩, fun i a u e1 e2 => ?_⟩
  · show (ρ.r ++ [p]).Nodup
    rw [List.nodup_append]
    refine ⟨r.nd, by simp, fun a ha b hb => ?_⟩
    cases List.mem_singleton.mp hb
    intro z; subst z
    exact np ha
  · rcases List.mem_append.mp z with z | z
    · exact (r.hid a m).1 z
    · cases List.mem_singleton.mp z
      exact r.notMem n (.inr m)
  · have e : Ext ρ H (ρ.push p) (upd H p (.dK [])) := Ext.push n
    have e1 : (ρ.r ++ [p])[i]? = some a := e1
    by_cases hi : i < ρ.r.length
    · rw [List.getElem?_append_left hi] at e1
      rw [List.getElem?_append_left (by rw [← r.len]; exact hi)] at e2
      exact (r.obj i a u e1 e2).ext e (upd_ne (fun z : a = p => r.notMem n (by rw [← z]; exact Rho.mem_get e1)))
    · have h1 : i = ρ.r.length := by
        have := (List.getElem?_eq_some_iff.mp e1).1
        simp at this; omega
      subst h1
      rw [List.getElem?_append_right (Nat.le_refl _)] at e1
      rw [List.getElem?_append_right (by rw [r.len]; exact Nat.le_refl _)] at e2
      simp [r.len] at e1 e2
      subst e1; subst e2
      exact upd_same
theorem re_dct0 : RE X (.Dict [] [] pos) (fun _ h => some (.ref h.length, h ++ [.ids []])) :=
  pe_dnewK.imp fun σ H Q ⟨ρ, σd, h, d, h', rs, rh, e, o⟩ => by
    simp only [Option.some.injEq, Prod.mk.injEq] at e
    obtain ⟨rfl, rfl⟩ := e
    intro p n
    refine o _ _ (ρ.push p) (Ext.push n) (rh.pushI n) ?_
    simp only [DV]
    exact ⟨p, rfl, by show (ρ.r ++ [p])[h.length]? = some p; rw [← rh.len]; simp⟩
/-! ### d[k] = True -/
theorem putK_ids (ks : List Int) (k : Int) : putK (ks.map fun k => ((Sum.inl k : Key), V.bl true)) (Sum.inl k) (V.bl true) = (putI ks k).map fun k => (Sum.inl k, V.bl true) := by
  unfold putK putI
  have ha : ((ks.map fun k => ((Sum.inl k : Key), V.bl true)).any fun kv => decide (kv.1 = Sum.inl k)) = decide (k ∈ ks) := by
    rw [Bool.eq_iff_iff]
    simp [List.any_map, List.any_eq_true]
  rw [ha]
  by_cases hk : k ∈ ks
  · rw [if_pos (by simpa using hk), if_pos hk, List.map_map]
    refine List.map_congr_left fun x _ => ?_
    simp only [Function.comp]
    split <;> rfl
  · rw [if_neg (by simpa using hk), if_neg hk, List.map_append]; rfl
def rSetI (K : Kw) : TSet := fun o i v H Q => ∃ ρ h n ks k a, RepH K ρ H h ∧ ρ.r[n]? = some a ∧ o = .ref a ∧ h[n]? = some (.ids ks) ∧ i = .int k ∧ v = .bl true ∧ ks.length < lim ∧
  ∀ H', Ext ρ H ρ H' → RepH K ρ H' (h.set n (.ids (putI ks k))) → Q H'
theorem set_ids (hu : X.A.units + 64 < cLine) : PSet X (rSetI X.kw) := by
  intro pins s σ H o i v ov iv u Q I ro ri rv ⟨ρ, h, n, ks, k, a, rh, hn, eo, en, ei, ev, hl, q⟩
  subst eo ei ev
  cases (show ov = Value.ref a from ro)
  obtain ⟨o2, e2, ok⟩ := rh.at' hn
  rw [en] at e2; cases e2
  have hx : (ks.map fun k => ((Sum.inl k : Key), V.bl true)).length < sizeLine := by rw [List.length_map, lim_eq]; exact hl
  refine d_setItem (show X.A.units + 1 < cLine from by omega) I (DPut.k (k := Sum.inl k) (v := V.bl true) ok hx) ri rv fun s4 I4 => ?_
  refine ⟨_, I4, q _ (Ext.mut (List.mem_of_getElem? hn)) (rh.setA hn ?_)⟩
  show upd H a _ a = _
  rw [upd_same, putK_ids]
theorem putID_of {x y d : D} {h h' : AH} (e : putID x y d h = some h') : ∃ n k ks, x = .ref n ∧ y = .int k ∧ d = .bl true ∧ h[n]? = some (.ids ks) ∧ ks.length < lim ∧ h' = h.set n (.ids (putI ks k)) := by
  cases x with
  | ref n =>
    cases y with
    | int k =>
      cases d with
      | bl b =>
        cases b with
        | true =>
          simp only [putID] at e
          cases en : h[n]? with
          | none => simp [en] at e
          | some ob =>
            cases ob with
            | ids ks =>
              simp only [en] at e
              split at e
              case isFalse => cases e
              rename_i hz
              cases e
              exact ⟨n, k, ks, rfl, rfl, rfl, en, hz, rfl⟩
            | _ => simp [en] at e
        | false => simp [putID] at e
      | _ => simp [putID] at e
    | _ => simp [putID] at e
  | _ => simp [putID] at e
theorem rs_setI {o i : Expr} {mo mi : Sl → AH → Option (D × AH)} {tpos : Pos} (hu : X.A.units + 64 < cLine) (hv : RE X e m) (ho : RE X o mo) (hi : RE X i mi) (hp : plainE i = true) (hn : notComp e = true) :
    RS X (.Assign [.Subscript o i tpos] e pos) (fun σ h => (m σ h).bind fun (d, h1) => (mo σ h1).bind fun (x, h2) => (mi σ h2).bind fun (y, h3) => (putID x y d h3).bind fun h4 => some (.nx, σ, h4)) := by
  have hasg : ∀ v, assign (.Subscript o i tpos) X.env v = (do
      let ov ← holding [v] (eval o X.env)
      let iv ← holding [v, ov] (eval i X.env)
      standAt tpos
      holding [v, ov, iv] (setItem ov iv v)
      release [v, ov, iv] []) := by
    intro v
    cases i <;> first | rfl | simp [plainE] at hp
  have hsw : swappedStores [.Subscript o i tpos] e X.env = pure none := by cases e <;> rfl
  refine (ps_asg (pos := pos) hv (pg_sub ho hi (set_ids hu) hasg) (show swapsWith e (some (.Subscript o i tpos)) pos.line X.env = pure false from swaps_no hn _ _ _) hsw rfl).imp fun D σ H ⟨ρ, σd, h, f, σd', h', rs, rh, e, o⟩ => ?_
  cases ea : m σd h with
  | none => simp [ea] at e
  | some p =>
    obtain ⟨d, h1⟩ := p
    cases eb : mo σd h1 with
    | none => simp [ea, eb] at e
    | some p =>
      obtain ⟨x, h2⟩ := p
      cases ec : mi σd h2 with
      | none => simp [ea, eb, ec] at e
      | some p =>
        obtain ⟨y, h3⟩ := p
        cases ed : putID x y d h3 with
        | none => simp [ea, eb, ec, ed] at e
        | some h4 =>
          simp only [ea, eb, ec, ed, Option.bind_some, Option.some.injEq, Prod.mk.injEq] at e
          obtain ⟨rfl, rfl, rfl⟩ := e
          obtain ⟨n, k, ks, rfl, rfl, rfl, en, hz, rfl⟩ := putID_of ed
          refine ⟨ρ, σd, h, _, h1, rs, rh, ea, fun v H1 ρ1 e1 r1 q1 => ⟨ρ1, σd, h1, _, h2, rs.ext e1, r1, eb, fun w H2 ρ2 e2 r2 q2 => ⟨ρ2, σd, h2, _, h3, rs.ext (e1.trans e2), r2, ec, fun u H3 ρ3 e3 r3 q3 => ?_⟩⟩⟩
          obtain ⟨l, rfl, hl⟩ := (DV.ext e3 _ q2).r
          refine ⟨ρ3, h3, n, ks, k, l, r3, hl, rfl, en, q3.i, q1.b, hz, fun H4 e4 r4 => ?_⟩
          have et := e1.trans (e2.trans (e3.trans e4))
          exact o _ _ ρ3 et (rs.ext et) r4
/-! ### in a tuple -/
theorem any_pd (x : D) (cx : closed x = true) : ∀ ds : List D, closeds ds = true → ((pdDs ds).any fun z => PyData.eqv z (pdD x)) = ds.any fun z => eqD z x
  | [], _ => rfl
  | d :: ds, c => by
    simp only [closeds, Bool.and_eq_true] at c
    simp only [pdDs, List.any_cons, pd_eq d x c.1 cx, any_pd x cx ds c.2]
theorem op_inT (hu : X.A.units + 64 < cLine) : OpR X (compareOp .In) (rB X.kw fun x y _ => inTD false x y) := by
  intro pins s σ H x y v u Q I rx ry ⟨ρ, h, a, b, d, rh, qa, qb, e, o⟩
  cases b with
  | tup ds =>
    simp only [inTD] at e
    split at e
    case isFalse => cases e
    rename_i hz
    simp only [Bool.and_eq_true, decide_eq_true_eq] at hz
    cases e
    obtain ⟨as, r1⟩ := Dp.reads I _ x v (dp_of a hz.1.1.1 qa) rx
    obtain ⟨bs, r2⟩ := Dp.reads I (.tuple (pdDs ds)) y u (dp_of (.tup ds) hz.1.1.2 qb) ry
    refine SeqAt.in_tuple_reads r2 r1 (pds_lay ds) (pd_lay a) ?_ ⟨.bl _, H, I, rfl, ?_⟩
    · rw [pds_dep, pd_dep]; omega
    · rw [any_pd a hz.1.1.1 ds hz.1.1.2]
      have := o.here rh (DV.bl' _)
      simpa using this
  | _ => simp [inTD] at e
theorem op_notinT (hu : X.A.units + 64 < cLine) : OpR X (compareOp .NotIn) (rB X.kw fun x y _ => inTD true x y) := by
  intro pins s σ H x y v u Q I rx ry ⟨ρ, h, a, b, d, rh, qa, qb, e, o⟩
  cases b with
  | tup ds =>
    simp only [inTD] at e
    split at e
    case isFalse => cases e
    rename_i hz
    simp only [Bool.and_eq_true, decide_eq_true_eq] at hz
    cases e
    obtain ⟨as, r1⟩ := Dp.reads I _ x v (dp_of a hz.1.1.1 qa) rx
    obtain ⟨bs, r2⟩ := Dp.reads I (.tuple (pdDs ds)) y u (dp_of (.tup ds) hz.1.1.2 qb) ry
    refine SeqAt.notIn_tuple_reads r2 r1 (pds_lay ds) (pd_lay a) ?_ ⟨.bl _, H, I, rfl, ?_⟩
    · rw [pds_dep, pd_dep]; omega
    · rw [any_pd a hz.1.1.1 ds hz.1.1.2]
      have := o.here rh (DV.bl' _)
      simpa using this
  | _ => simp [inTD] at e
theorem op_inTP (hu : X.A.units + 64 < cLine) (ng : Bool) : OpR X (compareOp (inP ng)) (rB X.kw fun x y _ => inTD ng x y) := by
  cases ng
  · exact op_inT hu
  · exact op_notinT hu
abbrev mInT (ng : Bool) (ma mb : Sl → AH → Option (D × AH)) : Sl → AH → Option (D × AH) := fun σ h => (ma σ h).bind fun (x, h1) => (mb σ h1).bind fun (y, h2) => (inTD ng x y).bind fun z => some (z, h2)
theorem re_inT {ng : Bool} (hu : X.A.units + 64 < cLine) (ha : RE X a ma) (hb : RE X b mb) (hm : behindInMarks (inP ng) b = false) : RE X (.Compare a [inP ng] [b] pos) (mInT ng ma mb) :=
  (pe_cmpR (op_inTP hu ng) ha hb hm).imp fun σ H Q q => tOp_imp (g := fun x y _ => inTD ng x y) σ H Q q
theorem rt_inT {ng : Bool} (hu : X.A.units + 64 < cLine) (ha : RE X a ma) (hb : RE X b mb) (hm : behindInMarks (inP ng) b = false) : RT X (.Compare a [inP ng] [b] pos) (tstM (mInT ng ma mb)) :=
  (pt_cmpR (op_inTP hu ng) ha hb hm).imp fun σ H Q ⟨ρ, σd, h, d, h', rs, rh, e, o⟩ => by
    cases ea : ma σd h with
    | none => simp [tstM, mInT, ea] at e
    | some p =>
      obtain ⟨x, h1⟩ := p
      cases eb : mb σd h1 with
      | none => simp [tstM, mInT, ea, eb] at e
      | some p =>
        obtain ⟨y, h2⟩ := p
        cases eg : inTD ng x y with
        | none => simp [tstM, mInT, ea, eb, eg] at e
        | some z =>
          obtain ⟨k, rfl⟩ : ∃ k, z = .bl k := by
            unfold inTD at eg
            split at eg
            · split at eg
              · cases eg; exact ⟨_, rfl⟩
              · cases eg
            · cases eg
          simp [tstM, mInT, ea, eb, eg, truth] at e
          obtain ⟨rfl, rfl⟩ := e
          exact ⟨ρ, σd, h, x, h1, rs, rh, ea, fun v H1 ρ1 e1 r1 q1 => ⟨ρ1, σd, h1, y, h2, rs.ext e1, r1, eb, fun w H2 ρ2 e2 r2 q2 => ⟨ρ2, h2, x, y, .bl k, r2, DV.ext e2 x q1, q2, eg, fun z H3 ρ3 e3 r3 q3 => ⟨k, q3.b, o H3 ρ3 (e1.trans (e2.trans e3)) r3⟩⟩⟩⟩
end
end PyD

/-! PyD8: the look that ties a def's syntax to the small language; that it is right. -/
namespace PyD
open PySem PySem.Spec PyProof.Rows L2

mutual
def sameD : D → D → Bool
  | .non, .non => true
  | .bl a, .bl b => a == b
  | .int a, .int b => decide (a = b)
  | .str a, .str b => decide (a = b)
  | .tup a, .tup b => sameDs a b
  | .lst a, .lst b => sameDs a b
  | .rol a, .rol b => sameDs a b
  | .ref a, .ref b => decide (a = b)
  | _, _ => false
def sameDs : List D → List D → Bool
  | [], [] => true
  | a :: r, b :: s => sameD a b && sameDs r s
  | _, _ => false
end
mutual
theorem sameD_eq : ∀ {a b : D}, sameD a b = true → a = b
  | .non, b, h => by cases b <;> simp [sameD] at h <;> rfl
  | .bl a, b, h => by cases b <;> simp [sameD] at h; rw [h]
  | .int a, b, h => by cases b <;> simp [sameD] at h; rw [h]
  | .str a, b, h => by cases b <;> simp [sameD] at h; rw [h]
  | .tup a, b, h => by cases b <;> simp [sameD] at h; rw [sameDs_eq h]
  | .lst a, b, h => by cases b <;> simp [sameD] at h; rw [sameDs_eq h]
  | .rol a, b, h => by cases b <;> simp [sameD] at h; rw [sameDs_eq h]
  | .ref a, b, h => by cases b <;> simp [sameD] at h; rw [h]
theorem sameDs_eq : ∀ {a b : List D}, sameDs a b = true → a = b
  | [], b, h => by cases b <;> simp [sameDs] at h; rfl
  | a :: r, b, h => by
    cases b with
    | nil => simp [sameDs] at h
    | cons b s =>
      simp only [sameDs, Bool.and_eq_true] at h
      rw [sameD_eq h.1, sameDs_eq h.2]
end

/-- what the look knows: the def's names, the scope at hand, the defs and constants that may be named -/
structure Ck where
  N : List Str
  sc : Scope
  tab : List (Str × Nat)
  cst : List (Str × D)
  kws : List (Nat × Nat × List Str) := []
  dfl : List (Nat × Nat × List D) := []
def Ck.vis (ck : Ck) (x : Str) : Bool := match ck.sc.names.lookup x with
  | some .local => true
  | some .cell => true
  | some .free => true
  | _ => false
def Ck.gl (ck : Ck) (x : Str) : Bool := match ck.sc.names.lookup x with
  | some .globalImplicit => true
  | _ => false
def Ck.loc (ck : Ck) (x : Str) : Bool := match ck.sc.names.lookup x with
  | some .local => true
  | some .cell => true
  | _ => false
def Ck.inn (ck : Ck) (sc : Scope) : Ck := { ck with sc := sc }
def okName (x : Str) : Bool := !(x == ("__debug__" : Str)) && !(x == ("__classdict__" : Str))
def isSet : Expr → Bool
  | .Set .. => true
  | _ => false
def isBase : Expr → Bool
  | .Name .. => true
  | .Subscript .. => true
  | _ => false
mutual
def tstOk : Ex → Bool
  | .not a => tstOk a
  | .bop _ es => tstOks es
  | .ite _ _ _ => false
  | _ => true
def tstOks : Exs → Bool
  | .nil => true
  | .cons e es => tstOk e && tstOks es
end
def lenE : Exs → Nat
  | .nil => 0
  | .cons _ es => lenE es + 1
mutual
def chkT (ck : Ck) : Tg → Expr → Bool
  | .v i, e => (match e with
    | .Name x _ => decide (ck.N[i]? = some x) && ck.loc x
    | _ => false)
  | .t ts, e => (match e with
    | .Tuple es _ _ => chkTs ck ts es
    | _ => false)
def chkTs (ck : Ck) : Tgs → List Expr → Bool
  | .nil, l => l.isEmpty
  | .cons t ts, l => (match l with
    | e :: es => plainE e && chkT ck t e && chkTs ck ts es
    | [] => false)
end
mutual
def chk (ck : Ck) : Ex → Expr → Bool
  | .var i, e => (match e with
    | .Name x _ => decide (ck.N[i]? = some x) && ck.vis x && okName x
    | _ => false)
  | .non, e => (match e with
    | .Constant .none _ _ => true
    | _ => false)
  | .bl b, e => (match e with
    | .Constant (.bool c) _ _ => b == c
    | _ => false)
  | .int i, e => (match e with
    | .Constant (.int j) _ _ => decide (i = j)
    | _ => false)
  | .str s, e => (match e with
    | .Constant (.str t) _ _ => decide (Str.ofString s = t)
    | _ => false)
  | .glob x d, e => (match e with
    | .Name y _ => decide (Str.ofString x = y) && ck.gl y && okName y && ck.cst.any (fun p => decide (p.1 = y) && sameD p.2 d)
    | _ => false)
  | .tup es, e => (match e with
    | .Tuple es' _ _ => decide (es'.length ≤ 1000) && chks ck es es'
    | _ => false)
  | .fv f, e => chkF ck f e
  | .fm f, e => chkF ck f e
  | .bin op a b, e => (match e with
    | .BinOp a' op' b' _ => decide (bopP op = op') && chk ck a a' && chk ck b b'
    | _ => false)
  | .neg a, e => (match e with
    | .UnaryOp .USub a' _ => chk ck a a'
    | _ => false)
  | .cmp op a b, e => (match e with
    | .Compare a' [op'] [b'] _ => decide (copP op = op') && chk ck a a' && chk ck b b' && !behindInMarks op' b'
    | _ => false)
  | .chain op1 op2 a b c, e => (match e with
    | .Compare a' [o1, o2] [b', c'] _ => decide (copP op1 = o1) && decide (copP op2 = o2) && chk ck a a' && chk ck b b' && chk ck c c' && !lastMarks [o1, o2] [b', c']
    | _ => false)
  | .bop i es, e => (match e with
    | .BoolOp op es' _ => decide ((if i then BoolOp.And else BoolOp.Or) = op) && chks ck es es'
    | _ => false)
  | .not a, e => (match e with
    | .UnaryOp .Not a' _ => chk ck a a'
    | _ => false)
  | .ite c a b, e => (match e with
    | .IfExp c' a' b' _ => tstOk c && chk ck c c' && chk ck a a' && chk ck b b'
    | _ => false)
  | .idx a b, e => (match e with
    | .Subscript a' b' _ => plainE b' && chk ck a a' && chk ck b b'
    | _ => false)
  | .slc a lo hi, e => (match e with
    | .Subscript a' (.Slice lo' hi' none _) _ => chk ck a a' && chkO ck lo lo' && chkO ck hi hi'
    | _ => false)
  | .call f args, e => (match e with
    | .Call (.Name x _) es [] _ => decide (ck.tab[f]? = some (x, es.length)) && ck.gl x && okName x && chks ck args es
    | _ => false)
  | .callK f args ks, e => (match e with
    | .Call (.Name x _) es kws _ => decide (ck.tab[f]? = some (x, es.length + kws.length)) && ck.gl x && okName x && !es.isEmpty && chks ck args es && chkK ck ks kws && kws.all (fun k => k.arg.isSome) && decide ((f, es.length, kws.filterMap (·.arg)) ∈ ck.kws)
    | _ => false)
  | .callD f args dfl, e => (match e with
    | .Call (.Name x _) es [] _ => decide (ck.tab[f]? = some (x, es.length + dfl.length)) && ck.gl x && okName x && !es.isEmpty && chks ck args es && ck.dfl.any (fun p => decide (p.1 = f) && decide (p.2.1 = es.length) && sameDs p.2.2 dfl)
    | _ => false)
  | .blt b args, e => (match e with
    | .Call (.Name x _) es [] _ => decide ((bltN b).1 = x) && ck.gl x && !es.isEmpty && chks ck args es
    | _ => false)
  | .isi a t, e => (match e with
    | .Call (.Name x _) [a', .Name y _] [] _ => decide (x = ("isinstance" : Str)) && decide (y = Str.ofString (tyN t)) && ck.gl x && ck.gl y && plainE a' && chk ck a a'
    | _ => false)
  | .comp elt tg it cond own, e => (match e with
    | .ListComp elt' [⟨tg', iter', ifs', 0⟩] sc _ => chkI ck it tg' iter' && !isSet iter' && plainE iter' && blkC ck.N ck.sc sc (own.map fun i => (ck.N.getD i Str.empty, i)) && chkT (ck.inn sc) tg tg' &&
      (slots tg).all (fun i => decide (i ∈ own)) && chkC (ck.inn sc) cond ifs' && chk (ck.inn sc) elt elt'
    | _ => false)
  | .app l x, e => (match e with
    | .Call (.Attribute l' nm apos) [e'] [] pos => decide (nm = ("append" : Str)) && isBase l' && (apos.endLine == pos.line) && plainE e' && chk ck l l' && chk ck x e'
    | _ => false)
  | .ext l x, e => (match e with
    | .Call (.Attribute l' nm apos) [e'] [] pos => decide (nm = ("extend" : Str)) && isBase l' && (apos.endLine == pos.line) && plainE e' && chk ck l l' && chk ck x e'
    | _ => false)
  | .dct0, e => (match e with
    | .Dict [] [] _ => true
    | _ => false)
  | .dct1 k v, e => (match e with
    | .Dict [some k'] [v'] _ => chk ck k k' && chk ck v v'
    | _ => false)
  | .inD ng a b, e => (match e with
    | .Compare a' [op'] [b'] _ => decide (inP ng = op') && chk ck a a' && chk ck b b' && !behindInMarks op' b'
    | _ => false)
  | .idxD _ _, _ => false
  | .inT ng a b, e => (match e with
    | .Compare a' [op'] [b'] _ => decide (inP ng = op') && chk ck a a' && chk ck b b' && !behindInMarks op' b'
    | _ => false)
def chks (ck : Ck) : Exs → List Expr → Bool
  | .nil, l => l.isEmpty
  | .cons x xs, l => (match l with
    | e :: es => plainE e && chk ck x e && chks ck xs es
    | [] => false)
def chkK (ck : Ck) : Exs → List Keyword → Bool
  | .nil, l => l.isEmpty
  | .cons x xs, l => (match l with
    | k :: ks => chk ck x k.value && chkK ck xs ks
    | [] => false)
def chkO (ck : Ck) : Ox → Option Expr → Bool
  | .no, o => o.isNone
  | .so x, o => (match o with
    | some e => chk ck x e
    | none => false)
/-- a comprehension's tests -/
def chkC (ck : Ck) : Ox → List Expr → Bool
  | .no, l => l.isEmpty
  | .so x, l => (match l with
    | [e] => tstOk x && chk ck x e
    | _ => false)
def chkF (ck : Ck) : Fx → Expr → Bool
  | .disp es, e => (match e with
    | .List es' _ => decide (es'.length ≤ 1000) && chks ck es es'
    | _ => false)
  | .rep a n, e => (match e with
    | .BinOp a' .Mult n' _ => chk ck a a' && chk ck n n'
    | _ => false)
  | .cat a b, e => (match e with
    | .BinOp a' .Add b' _ => chk ck a a' && chk ck b b'
    | _ => false)
  | .ofSeq x, e => (match e with
    | .Call (.Name y _) [e'] [] _ => decide (y = ("list" : Str)) && ck.gl y && plainE e' && chk ck x e'
    | _ => false)
  | .rng1 b, e => (match e with
    | .Call (.Name x _) [.Call (.Name y _) [b'] [] _] [] _ => decide (x = ("list" : Str)) && decide (y = ("range" : Str)) && ck.gl x && ck.gl y && plainE b' && chk ck b b'
    | _ => false)
  | .rng2 a b, e => (match e with
    | .Call (.Name x _) [.Call (.Name y _) [a', b'] [] _] [] _ => decide (x = ("list" : Str)) && decide (y = ("range" : Str)) && ck.gl x && ck.gl y && plainE a' && plainE b' && chk ck a a' && chk ck b b'
    | _ => false)
  | .cut a lo hi, e => (match e with
    | .Subscript a' (.Slice lo' hi' none _) _ => chk ck a a' && chkO ck lo lo' && chkO ck hi hi'
    | _ => false)
  | .rev a, e => (match e with
    | .Subscript a' (.Slice none none (some (.UnaryOp .USub (.Constant (.int 1) _ _) _)) _) _ => chk ck a a'
    | _ => false)
  | .srt x, e => (match e with
    | .Call (.Name y _) [e'] [] _ => decide (y = ("sorted" : Str)) && ck.gl y && plainE e' && chk ck x e'
    | _ => false)
def chkI (ck : Ck) : It → Expr → Expr → Bool
  | .seq x, _, e => chk ck x e
  | .rng1 b, _, e => (match e with
    | .Call (.Name x _) [b'] [] _ => decide (x = ("range" : Str)) && ck.gl x && plainE b' && chk ck b b'
    | _ => false)
  | .rng2 a b, _, e => (match e with
    | .Call (.Name x _) [a', b'] [] _ => decide (x = ("range" : Str)) && ck.gl x && plainE a' && plainE b' && chk ck a a' && chk ck b b'
    | _ => false)
  | .enum a, t, e => (match t, e with
    | .Tuple .., .Call (.Name x _) [a'] [] _ => decide (x = ("enumerate" : Str)) && ck.gl x && plainE a' && chk ck a a'
    | _, _ => false)
  | .zip a b, t, e => (match t, e with
    | .Tuple .., .Call (.Name x _) [a', b'] [] _ => decide (x = ("zip" : Str)) && ck.gl x && plainE a' && plainE b' && chk ck a a' && chk ck b b'
    | _, _ => false)
end

/-- the names of built-ins that are used: no name of the module -/
def bltNames : List Str := ["len", "abs", "int", "min", "max", "str", "tuple", "all", "any", "bool", "list", "range", "enumerate", "zip", "isinstance", "sum", "sorted"]
/-- where an expression stands -/
structure OkE (ck : Ck) (C : Nat → Fun) (X : Cx) : Prop where
  hN : X.N = ck.N
  nd : ck.N.Nodup
  vis : ∀ x, ck.vis x = true → Vis X.env.scope x
  gl : ∀ x, ck.gl x = true → Gl X x
  loc : ∀ x, ck.loc x = true → Loc X.env.scope x ∧ (X.fn x = true ∨ X.env.scope.names.lookup x = some .local)
  cf : ∀ x, (ck.sc.names.lookup x = some .cell ∨ ck.sc.names.lookup x = some .free) → (X.env.scope.names.lookup x = some .cell ∨ X.env.scope.names.lookup x = some .free)
  kind : X.env.scope.kind = .function
  calm : X.calm = true
  xe : X.xe = fun _ _ => False
  fns : ∃ k, Room k X.A ∧ ∀ i name ar, ck.tab[i]? = some (name, ar) → ∃ f fd ps, FnOk X.prog X.w X.kw X.mg X.base CX0 k f fd ps (spD X.kw ar (C i)) ∧ X.mg name = some (.ref f) ∧ PySem.W.keepIn X.kw (.ref f) = true ∧ Binds X.kw fd ps [] ∧ (∀ j ks, (i, j, ks) ∈ ck.kws → KBinds X.kw fd ps ks (gJ j) (gJ j)) ∧ (∀ j ds, (i, j, ds) ∈ ck.dfl → ∃ dvs dus, Binds X.kw fd ps dus ∧ Vals dvs dus ∧ ∀ ρ H, DVs X.kw ρ H ds dvs)
  cst : ∀ x d, (x, d) ∈ ck.cst → ∃ u v, X.mg x = some u ∧ RelV v u ∧ ∀ ρ H, DV X.kw ρ H d v
  blt : ∀ x ∈ bltNames, X.mg x = none
theorem OkE.room {ck : Ck} {C : Nat → Fun} {X : Cx} (ok : OkE ck C X) : X.A.units + 64 < cLine := by
  obtain ⟨k, hr, _⟩ := ok.fns
  have := hr.un
  omega
theorem relabel_look {env : Env} : ∀ {names : List (Str × NameKind)} {x : Str}, ∃ g : NameKind → NameKind, (∀ k, g k = k ∨ (k = .free ∧ g k = .cell)) ∧
    (names.map fun (n, k) => if (k == NameKind.free && env.scope.kind == .function && env.kindOf n == some .cell) then (n, NameKind.cell) else (n, k)).lookup x = (names.lookup x).map g
  | [], x => ⟨id, fun _ => .inl rfl, rfl⟩
  | (n, k) :: r, x => by
    obtain ⟨g, hg, ih⟩ := relabel_look (env := env) (names := r) (x := x)
    rw [List.map_cons]
    show ∃ g : NameKind → NameKind, _ ∧ List.lookup x ((if (k == NameKind.free && env.scope.kind == .function && env.kindOf n == some .cell) = true then (n, NameKind.cell) else (n, k)) :: _) = (List.lookup x ((n, k) :: r)).map g
    cases hx : x == n with
    | false =>
      refine ⟨g, hg, ?_⟩
      rw [show List.lookup x ((n, k) :: r) = List.lookup x r by rw [List.lookup_cons, hx]]
      split <;> (rw [List.lookup_cons, hx]; exact ih)
    | true =>
      rw [show List.lookup x ((n, k) :: r) = some k by rw [List.lookup_cons, hx]]
      by_cases hc : (k == NameKind.free && env.scope.kind == .function && env.kindOf n == some .cell) = true
      · rw [if_pos hc, List.lookup_cons, hx]
        have hk : k = .free := by
          simp only [Bool.and_eq_true, beq_iff_eq] at hc
          exact hc.1.1
        subst hk
        exact ⟨fun k => if k = .free then .cell else k, fun k => by by_cases e : k = .free <;> simp [e], by simp⟩
      · rw [if_neg hc, List.lookup_cons, hx]
        exact ⟨id, fun _ => .inl rfl, rfl⟩
theorem OkE.blk {ck : Ck} {C : Nat → Fun} {X : Cx} (ok : OkE ck C X) (scope : Scope) (hk : scope.kind = .function) (s : Shared) (H : Hp) (Ca : Addr) (cl : List (Str × Addr)) (fp : List Addr) :
    OkE (ck.inn scope) C (X.blk s H scope (compEnvC scope cl Ca X.env) fp) := by
  have look : ∀ x, ∃ g : NameKind → NameKind, (∀ k, g k = k ∨ (k = .free ∧ g k = .cell)) ∧ (compEnvC scope cl Ca X.env).scope.names.lookup x = (scope.names.lookup x).map g := fun x => relabel_look
  refine ⟨ok.hN, ok.nd, fun x h => ?_, fun x h => ?_, fun x h => ?_, fun x h => ?_, hk, ok.calm, rfl, ok.fns, ok.cst, ok.blt⟩
  · obtain ⟨g, hg, e⟩ := look x
    unfold Ck.vis at h
    show _ ∨ _ ∨ _
    have h' : (match scope.names.lookup x with | some .local => true | some .cell => true | some .free => true | _ => false) = true := h
    cases q : scope.names.lookup x with
    | none => rw [q] at h'; cases h'
    | some k =>
      rw [q] at h' e
      rw [show (X.blk s H scope (compEnvC scope cl Ca X.env) fp).env.scope.names.lookup x = _ from e]
      cases k with
      | «local» => rcases hg .local with z | ⟨z, _⟩ <;> simp_all
      | cell => rcases hg .cell with z | ⟨z, _⟩ <;> simp_all
      | free => rcases hg .free with z | ⟨_, z⟩ <;> simp_all
      | _ => cases h'
  · obtain ⟨g, hg, e⟩ := look x
    have h' : (match scope.names.lookup x with | some .globalImplicit => true | _ => false) = true := h
    show (compEnvC scope cl Ca X.env).scope.names.lookup x = some .globalImplicit
    cases q : scope.names.lookup x with
    | none => rw [q] at h'; cases h'
    | some k =>
      rw [q] at h' e
      cases k with
      | globalImplicit => rw [e]; rcases hg .globalImplicit with z | ⟨z, _⟩ <;> simp_all
      | _ => cases h'
  · obtain ⟨g, hg, e⟩ := look x
    have h' : (match scope.names.lookup x with | some .local => true | some .cell => true | _ => false) = true := h
    show ((compEnvC scope cl Ca X.env).scope.names.lookup x = some .local ∨ (compEnvC scope cl Ca X.env).scope.names.lookup x = some .cell) ∧ ((scope.names.lookup x == some .cell) = true ∨ (compEnvC scope cl Ca X.env).scope.names.lookup x = some .local)
    cases q : scope.names.lookup x with
    | none => rw [q] at h'; cases h'
    | some k =>
      rw [q] at h' e
      cases k with
      | «local» => rcases hg .local with z | ⟨z, _⟩ <;> simp_all
      | cell => rcases hg .cell with z | ⟨z, _⟩ <;> simp_all
      | _ => cases h'
  · obtain ⟨g, hg, e⟩ := look x
    show (compEnvC scope cl Ca X.env).scope.names.lookup x = some .cell ∨ (compEnvC scope cl Ca X.env).scope.names.lookup x = some .free
    have h : scope.names.lookup x = some .cell ∨ scope.names.lookup x = some .free := h
    rcases h with h | h
    · rw [h] at e; rcases hg .cell with z | ⟨z, _⟩ <;> simp_all
    · rw [h] at e; rcases hg .free with z | ⟨_, z⟩ <;> simp_all
theorem OkE.blkOk {ck : Ck} {C : Nat → Fun} {X : Cx} (ok : OkE ck C X) {scope : Scope} {own : List (Str × Nat)} (h : blkC ck.N ck.sc scope own = true) : BlkOk X.N X.env.scope scope own := by
  have b := blkOk_by h
  rw [ok.hN]
  exact ⟨b.kind, b.uniq, b.ix, fun y hy e => ok.cf _ (b.free y hy e), b.own⟩
end PyD

/-! PyD9: the look is right: expressions. -/
namespace PyD
open PySem PySem.Spec PyProof.Rows L2
theorem evs_len (C : Nat → Fun) : ∀ (es : Exs) (σ : Sl) (h : AH) (ds : List D) (h' : AH), evs C es σ h = some (ds, h') → ds.length = lenE es
  | .nil, σ, h, ds, h', e => by
    simp only [evs, Option.some.injEq, Prod.mk.injEq] at e
    obtain ⟨rfl, rfl⟩ := e; rfl
  | .cons x xs, σ, h, ds, h', e => by
    simp only [evs] at e
    cases ea : ev C x σ h with
    | none => simp [ea] at e
    | some p =>
      obtain ⟨d, h1⟩ := p
      cases eb : evs C xs σ h1 with
      | none => simp [ea, eb] at e
      | some p =>
        obtain ⟨r, h2⟩ := p
        simp [ea, eb] at e
        obtain ⟨rfl, rfl⟩ := e
        rw [List.length_cons, evs_len C xs _ _ _ _ eb, lenE]
theorem chks_len {ck : Ck} : ∀ {es : Exs} {l : List Expr}, chks ck es l = true → lenE es = l.length ∧ l.all plainE = true
  | .nil, l, h => by
    simp only [chks, List.isEmpty_iff] at h
    subst h; exact ⟨rfl, rfl⟩
  | .cons x xs, l, h => by
    cases l with
    | nil => simp [chks] at h
    | cons e es =>
      simp only [chks, Bool.and_eq_true] at h
      obtain ⟨h1, h2⟩ := chks_len h.2
      exact ⟨by simp [lenE, h1], by simp [h.1.1, h2]⟩
theorem chkK_len {ck : Ck} : ∀ {es : Exs} {l : List Keyword}, chkK ck es l = true → lenE es = l.length
  | .nil, l, h => by
    simp only [chkK, List.isEmpty_iff] at h
    subst h; rfl
  | .cons x xs, l, h => by
    cases l with
    | nil => simp [chkK] at h
    | cons e es =>
      simp only [chkK, Bool.and_eq_true] at h
      simp [lenE, chkK_len h.2]
theorem tDs_nil {K : Kw} (σ : L2.St) (H : Hp) (Q : List V → Hp → Prop) (q : tDs K (fun _ h => some ([], h)) σ H Q) : tNil σ H Q := by
  obtain ⟨ρ, σd, h, ds, h', rs, rh, e, o⟩ := q
  simp only [Option.some.injEq, Prod.mk.injEq] at e
  obtain ⟨rfl, rfl⟩ := e
  exact o [] H ρ (Ext.refl _ _) rh .nil
theorem tDs_cons {K : Kw} {m : Sl → AH → Option (D × AH)} {ms : Sl → AH → Option (List D × AH)} (σ : L2.St) (H : Hp) (Q : List V → Hp → Prop)
    (q : tDs K (fun σ h => (m σ h).bind fun (d, h1) => (ms σ h1).bind fun (ds, h2) => some (d :: ds, h2)) σ H Q) : tCons (tD K m) (tDs K ms) σ H Q := by
  obtain ⟨ρ, σd, h, ds, h', rs, rh, e, o⟩ := q
  cases ea : m σd h with
  | none => simp [ea] at e
  | some p =>
    obtain ⟨x, h1⟩ := p
    cases eb : ms σd h1 with
    | none => simp [ea, eb] at e
    | some p =>
      obtain ⟨xs, h2⟩ := p
      simp [ea, eb] at e
      obtain ⟨rfl, rfl⟩ := e
      exact ⟨ρ, σd, h, x, h1, rs, rh, ea, fun v H1 ρ1 e1 r1 q1 => ⟨ρ1, σd, h1, xs, h2, rs.ext e1, r1, eb, fun vs H2 ρ2 e2 r2 q2 => o _ H2 ρ2 (e1.trans e2) r2 (.cons (DV.ext e2 x q1) q2)⟩⟩
theorem pk_imp {X : Cx} {kws : List Keyword} {t t' : TA} (h : PK X kws t) (i : ∀ σ H Q, t' σ H Q → t σ H Q) : PK X kws t' := ⟨fun pos pins s σ H Q I q => h.run pos pins s σ H Q I (i _ _ _ q)⟩
theorem okN {x : Str} (h : okName x = true) : (x == ("__debug__" : Str)) = false ∧ (x == ("__classdict__" : Str)) = false := by
  unfold okName at h
  simp only [Bool.and_eq_true, Bool.not_eq_true'] at h
  exact h

section
variable {C : Nat → Fun}
mutual
theorem sT {ck : Ck} {X : Cx} (ok : OkE ck C X) : ∀ (t : Tg) (e : Expr), chkT ck t e = true → RG X e t
  | .v i, e, h => by
    simp only [chkT] at h
    split at h
    case h_2 => cases h
    rename_i x p
    simp only [Bool.and_eq_true, decide_eq_true_eq] at h
    obtain ⟨h1, h2⟩ := ok.loc _ h.2
    exact rg_v (by rw [ok.hN]; exact ok.nd) (by rw [ok.hN]; exact h.1) h1 h2
  | .t ts, e, h => by
    simp only [chkT] at h
    split at h
    case h_2 => cases h
    rename_i es k p
    obtain ⟨h1, h2, h3⟩ := sTs ok ts es h
    exact rg_t ok.calm h2 h3 h1
theorem sTs {ck : Ck} {X : Cx} (ok : OkE ck C X) : ∀ (ts : Tgs) (es : List Expr), chkTs ck ts es = true → RGs X es ts ∧ es.all plainE = true ∧ lenT ts = es.length
  | .nil, es, h => by
    simp only [chkTs, List.isEmpty_iff] at h
    subst h
    exact ⟨rgs_nil, rfl, rfl⟩
  | .cons t ts, es, h => by
    cases es with
    | nil => simp [chkTs] at h
    | cons e es =>
      simp only [chkTs, Bool.and_eq_true] at h
      obtain ⟨h1, h2, h3⟩ := sTs ok ts es h.2
      exact ⟨rgs_cons h.1.1 (sT ok t e h.1.2) h1, by simp [h.1.1, h2], by simp [lenT, h3]⟩
end
theorem re_comp {ck : Ck} {X : Cx} (ok : OkE ck C X) {elt tg iter : Expr} {ifs : List Expr} {sc : Scope} {pos : Pos} {own : List Nat} {mi : Sl → AH → Option (List D × Option Nat × AH)} {t : Tg} {mc : Sl → AH → Option (Bool × AH)} {me : Sl → AH → Option (D × AH)}
    (hi : RI X tg iter mi) (hb : blkC ck.N ck.sc sc (own.map fun i => (ck.N.getD i Str.empty, i)) = true) (hs : isSet iter = false) (hp : plainE iter = true) (hv : (slots t).all (fun i => decide (i ∈ own)) = true)
    (hg : ∀ X', OkE (ck.inn sc) C X' → X'.kw = X.kw → RG X' tg t) (hc : ∀ X', OkE (ck.inn sc) C X' → X'.kw = X.kw → PTs X' ifs (tDT X'.kw mc)) (he : ∀ X', OkE (ck.inn sc) C X' → X'.kw = X.kw → RE X' elt me) :
    RE X (.ListComp elt [⟨tg, iter, ifs, 0⟩] sc pos) (fun σ h => (mi σ h).bind fun (xs, n, h1) => if xs.length ≤ lim then (compL (wipe σ own) t n xs.length mc me xs 0 h1).bind fun (ds, h2) => some (.lst ds, h2) else none) := by
  have bo := ok.blkOk hb
  have e : (own.map fun i => (ck.N.getD i Str.empty, i)).map (·.2) = own := by
    rw [List.map_map]
    show own.map (fun i => i) = own
    simp
  have hN : X.N.Nodup := by rw [ok.hN]; exact ok.nd
  refine (pe_lc (wi := tI X.kw mi) (g := gD X.kw t) (tt := tDT X.kw mc) (te := tD X.kw me) ok.calm hN hi bo (fun s H Ca cl fp => hg _ (ok.blk sc bo.kind s H Ca cl fp) rfl) (fun s H Ca cl fp => hc _ (ok.blk sc bo.kind s H Ca cl fp) rfl) (fun s H Ca cl fp => he _ (ok.blk sc bo.kind s H Ca cl fp) rfl)
    (fun x => folded_no hp (by cases iter <;> first | rfl | simp [isSet] at hs) _ _)).imp fun σ H Q q => ?_
  rw [e]
  exact tLc_imp (fun i hi => by simpa using List.all_eq_true.mp hv i hi) σ H Q q
theorem base_attr {e : Expr} (h : isBase e = true) (env : Env) (nm : Str) : attributeBase e nm env (eval e env) = eval e env := by
  cases e <;> first | rfl | simp [isBase] at h
theorem fx_truth {ck : Ck} {f : Fx} {e : Expr} {env : Env} (h : chkF ck f e = true) : ∀ whole, isTrue e env whole = (do let v ← whole; standAt e.pos; holding [v] (truthy v)) := by
  cases f <;> (simp only [chkF] at h; split at h <;> first | (intro w; rfl) | cases h)
theorem mk2 {X : Cx} {a : Expr} {ma : Sl → AH → Option (D × AH)} {P : Prop} (r : RE X a ma) (he : ∀ whole, isTrue a X.env whole = (do let v ← whole; standAt a.pos; holding [v] (truthy v))) : RE X a ma ∧ (P → RT X a (tstM ma)) := ⟨r, fun _ => rt_val r he⟩
mutual
theorem sE {ck : Ck} {X : Cx} (ok : OkE ck C X) : ∀ (x : Ex) (e : Expr), chk ck x e = true → RE X e (ev C x) ∧ (tstOk x = true → RT X e (tstM (ev C x)))
  | .var i, e, h => by
    simp only [chk] at h
    split at h
    case h_2 => cases h
    rename_i x p
    simp only [Bool.and_eq_true, decide_eq_true_eq] at h
    obtain ⟨h1, h2⟩ := okN h.2
    exact mk2 (re_var (by rw [ok.hN]; exact h.1.1) (ok.vis _ h.1.2) h1 h2) (by intro w; rfl)
  | .non, e, h => by
    simp only [chk] at h
    split at h
    case h_2 => cases h
    exact mk2 (re_c pe_non fun _ _ => DV.non') (by intro w; rfl)
  | .bl b, e, h => by
    simp only [chk] at h
    split at h
    case h_2 => cases h
    obtain rfl := eq_of_beq h
    exact mk2 (re_c pe_bl fun _ _ => DV.bl' _) (by intro w; rfl)
  | .int i, e, h => by
    simp only [chk] at h
    split at h
    case h_2 => cases h
    obtain rfl := of_decide_eq_true h
    exact mk2 (re_c pe_int fun _ _ => DV.int' _) (by intro w; rfl)
  | .str s, e, h => by
    simp only [chk] at h
    split at h
    case h_2 => cases h
    obtain rfl := of_decide_eq_true h
    exact mk2 (re_c pe_str fun _ _ => DV.str' _) (by intro w; rfl)
  | .glob x d, e, h => by
    simp only [chk] at h
    split at h
    case h_2 => cases h
    rename_i y p
    simp only [Bool.and_eq_true, decide_eq_true_eq, List.any_eq_true] at h
    obtain ⟨⟨⟨h1, h2⟩, h3⟩, ⟨⟨y', d'⟩, hm, h4, h5⟩⟩ := h
    have hd := sameD_eq h5
    simp only at h4 hd
    subst h4; subst hd
    obtain ⟨u, v, hu, hr, hq⟩ := ok.cst _ _ hm
    exact mk2 (re_c (pe_glob (ok.gl _ h2) hu hr (okN h3).1) hq) (by intro w; rfl)
  | .tup es, e, h => by
    simp only [chk] at h
    split at h
    case h_2 => cases h
    simp only [Bool.and_eq_true, decide_eq_true_eq] at h
    have hl := (chks_len h.2).1
    exact mk2 (re_tup (sEs ok es _ h.2) h.1 fun σ hh ds h' e => by rw [evs_len C _ _ _ _ _ e, hl]) (by intro w; rfl)
  | .fv f, e, h => by
    simp only [chk] at h
    exact mk2 (re_fv (sF ok f e h)) (fx_truth h)
  | .fm f, e, h => by
    simp only [chk] at h
    exact mk2 (re_fm (sF ok f e h)) (fx_truth h)
  | .bin op a b, e, h => by
    simp only [chk] at h
    split at h
    case h_2 => cases h
    simp only [Bool.and_eq_true, decide_eq_true_eq] at h
    obtain ⟨⟨rfl, h1⟩, h2⟩ := h
    exact mk2 (re_bin (sE ok a _ h1).1 (sE ok b _ h2).1) (by intro w; rfl)
  | .neg a, e, h => by
    simp only [chk] at h
    split at h
    case h_2 => cases h
    exact mk2 (re_neg (sE ok a _ h).1) (by intro w; rfl)
  | .cmp op a b, e, h => by
    simp only [chk] at h
    split at h
    case h_2 => cases h
    simp only [Bool.and_eq_true, decide_eq_true_eq, Bool.not_eq_true'] at h
    obtain ⟨⟨⟨rfl, h1⟩, h2⟩, h3⟩ := h
    exact ⟨re_cmp ok.room (sE ok a _ h1).1 (sE ok b _ h2).1 h3, fun _ => rt_cmp ok.room (sE ok a _ h1).1 (sE ok b _ h2).1 h3⟩
  | .chain op1 op2 a b c, e, h => by
    simp only [chk] at h
    split at h
    case h_2 => cases h
    simp only [Bool.and_eq_true, decide_eq_true_eq, Bool.not_eq_true'] at h
    obtain ⟨⟨⟨⟨⟨rfl, rfl⟩, h1⟩, h2⟩, h3⟩, h4⟩ := h
    exact ⟨re_chain ok.room (sE ok a _ h1).1 (sE ok b _ h2).1 (sE ok c _ h3).1 h4, fun _ => rt_chain ok.room (sE ok a _ h1).1 (sE ok b _ h2).1 (sE ok c _ h3).1 h4⟩
  | .bop i es, e, h => by
    simp only [chk] at h
    split at h
    case h_2 => cases h
    rename_i op es' pos
    simp only [Bool.and_eq_true, decide_eq_true_eq] at h
    obtain ⟨rfl, h1⟩ := h
    have b := sB ok i es es' pos h1
    exact ⟨b.1, fun ht => by simp only [tstOk] at ht; exact (b.2 ht).pt⟩
  | .not a, e, h => by
    simp only [chk] at h
    split at h
    case h_2 => cases h
    exact ⟨re_not (sE ok a _ h).1, fun ht => by simp only [tstOk] at ht; exact rt_not ((sE ok a _ h).2 ht)⟩
  | .ite c a b, e, h => by
    simp only [chk] at h
    split at h
    case h_2 => cases h
    simp only [Bool.and_eq_true] at h
    exact ⟨re_ite ((sE ok c _ h.1.1.2).2 h.1.1.1) (sE ok a _ h.1.2).1 (sE ok b _ h.2).1, fun ht => by simp [tstOk] at ht⟩
  | .idx a b, e, h => by
    simp only [chk] at h
    split at h
    case h_2 => cases h
    simp only [Bool.and_eq_true] at h
    exact mk2 (re_idx h.1.1 (sE ok a _ h.1.2).1 (sE ok b _ h.2).1) (by intro w; rfl)
  | .slc a lo hi, e, h => by
    simp only [chk] at h
    split at h
    case h_2 => cases h
    simp only [Bool.and_eq_true] at h
    exact mk2 (re_slc (sE ok a _ h.1.1).1 (sO ok lo _ h.1.2) (sO ok hi _ h.2)) (by intro w; rfl)
  | .call f args, e, h => by
    simp only [chk] at h
    split at h
    case h_2 => cases h
    rename_i x p es pos
    simp only [Bool.and_eq_true, decide_eq_true_eq] at h
    obtain ⟨⟨⟨h1, h2⟩, h3⟩, h4⟩ := h
    obtain ⟨k, hr, hf⟩ := ok.fns
    obtain ⟨fa, fd, ps, F, hm, hk, hb, _, _⟩ := hf f x es.length h1
    obtain ⟨hl, hp⟩ := chks_len h4
    cases es with
    | nil =>
      cases args with
      | nil => exact mk2 (re_call0 (f := f) F hr (ok.gl _ h2) hm hk hb (okN h3).1) (by intro w; rfl)
      | cons _ _ => simp [lenE] at hl
    | cons e0 er => exact mk2 (re_call (f := f) F hr (ok.gl _ h2) hm hk hb (sEs ok args _ h4) hp rfl (fun σ hh ds h' e => by rw [evs_len C _ _ _ _ _ e, hl]) (okN h3).1 (by simp)) (by intro w; rfl)
  | .callK f args ks, e, h => by
    simp only [chk] at h
    split at h
    case h_2 => cases h
    rename_i x p es kws pos
    simp only [Bool.and_eq_true, decide_eq_true_eq, Bool.not_eq_true'] at h
    obtain ⟨⟨⟨⟨⟨⟨⟨h1, h2⟩, h3⟩, h0⟩, h4⟩, h5⟩, h6⟩, h7⟩ := h
    obtain ⟨k, hr, hf⟩ := ok.fns
    obtain ⟨fa, fd, ps, F, hm, hk, _, hb, _⟩ := hf f x _ h1
    obtain ⟨hl, hp⟩ := chks_len h4
    exact mk2 (re_callK (f := f) F hr (ok.gl _ h2) hm hk (hb _ _ h7) (sEs ok args _ h4) (sK ok ks _ h5) hp rfl rfl (fun σ hh ds h' e => by rw [evs_len C _ _ _ _ _ e, hl]) (fun σ hh ds h' e => by rw [evs_len C _ _ _ _ _ e, chkK_len h5]) (okN h3).1 (fun z => by simp [z] at h0) h6 rfl) (by intro w; rfl)
  | .callD f args dfl, e, h => by
    simp only [chk] at h
    split at h
    case h_2 => cases h
    rename_i x p es pos
    simp only [Bool.and_eq_true, decide_eq_true_eq, Bool.not_eq_true', List.any_eq_true] at h
    obtain ⟨⟨⟨⟨⟨h1, h2⟩, h3⟩, h0⟩, h4⟩, ⟨⟨f', j', ds'⟩, hmem, ⟨hf', hj'⟩, hds⟩⟩ := h
    obtain rfl := sameDs_eq hds
    simp only at hf' hj'
    subst hf' hj'
    obtain ⟨k, hr, hf⟩ := ok.fns
    obtain ⟨fa, fd, ps, F, hm, hk, _, _, hb⟩ := hf _ x _ h1
    obtain ⟨dvs, dus, b1, b2, b3⟩ := hb _ _ hmem
    obtain ⟨hl, hp⟩ := chks_len h4
    exact mk2 (re_callD (f := 0) F hr (ok.gl _ h2) hm hk b1 b2 b3 (sEs ok args _ h4) hp rfl (fun σ hh ds h' e => by rw [evs_len C _ _ _ _ _ e, hl]) (okN h3).1 (fun z => by simp [z] at h0)) (by intro w; rfl)
  | .blt b args, e, h => by
    simp only [chk] at h
    split at h
    case h_2 => cases h
    rename_i x p es pos
    simp only [Bool.and_eq_true, decide_eq_true_eq, Bool.not_eq_true'] at h
    obtain ⟨⟨⟨rfl, h2⟩, h3⟩, h4⟩ := h
    obtain ⟨hl, hp⟩ := chks_len h4
    cases es with
    | nil => simp at h3
    | cons e0 er =>
      rw [List.all_cons, Bool.and_eq_true] at hp
      exact mk2 (re_blt ok.calm (ok.gl _ h2) (ok.blt _ (by cases b <;> decide)) (sEs ok args _ h4) hp.1 hp.2) (by intro w; rfl)
  | .isi a t, e, h => by
    simp only [chk] at h
    split at h
    case h_2 => cases h
    simp only [Bool.and_eq_true, decide_eq_true_eq] at h
    obtain ⟨⟨⟨⟨⟨rfl, rfl⟩, h1⟩, h2⟩, h3⟩, h4⟩ := h
    exact mk2 (re_isi (p2 := ⟨0, 0, 0, 0⟩) (ok.gl _ h1) (ok.blt _ (by decide)) (ok.gl _ h2) (ok.blt _ (by cases t <;> decide)) (sE ok a _ h4).1 h3) (by intro w; rfl)
  | .comp elt tg it cond own, e, h => by
    simp only [chk] at h
    split at h
    case h_2 => cases h
    rename_i elt' tg' iter' ifs' sc pos
    simp only [Bool.and_eq_true, Bool.not_eq_true'] at h
    obtain ⟨⟨⟨⟨⟨⟨⟨h1, h2⟩, h3⟩, h4⟩, h5⟩, h6⟩, h7⟩, h8⟩ := h
    exact mk2 (re_comp ok (sI ok it tg' iter' h1) h4 h2 h3 h6 (fun X' ok' _ => sT ok' tg tg' h5) (fun X' ok' _ => sC ok' cond ifs' h7) (fun X' ok' _ => (sE ok' elt elt' h8).1)) (by intro w; rfl)
  | .app l x, e, h => by
    simp only [chk] at h
    split at h
    case h_2 => cases h
    simp only [Bool.and_eq_true, decide_eq_true_eq] at h
    obtain ⟨⟨⟨⟨⟨rfl, h1⟩, h2⟩, h3⟩, h4⟩, h5⟩ := h
    exact mk2 (re_app (sE ok l _ h4).1 (sE ok x _ h5).1 h3 (base_attr h1 _ _) h2) (by intro w; rfl)
  | .ext l x, e, h => by
    simp only [chk] at h
    split at h
    case h_2 => cases h
    simp only [Bool.and_eq_true, decide_eq_true_eq] at h
    obtain ⟨⟨⟨⟨⟨rfl, h1⟩, h2⟩, h3⟩, h4⟩, h5⟩ := h
    exact mk2 (re_ext (sE ok l _ h4).1 (sE ok x _ h5).1 h3 (base_attr h1 _ _) h2) (by intro w; rfl)
  | .dct0, e, h => by
    simp only [chk] at h
    split at h
    case h_2 => cases h
    exact mk2 re_dct0 (by intro w; rfl)
  | .dct1 k v, e, h => by
    simp only [chk] at h
    split at h
    case h_2 => cases h
    simp only [Bool.and_eq_true] at h
    exact mk2 (re_dct1 ok.room (sE ok k _ h.1).1 (sE ok v _ h.2).1) (by intro w; rfl)
  | .inD ng a b, e, h => by
    simp only [chk] at h
    split at h
    case h_2 => cases h
    simp only [Bool.and_eq_true, decide_eq_true_eq, Bool.not_eq_true'] at h
    obtain ⟨⟨⟨rfl, h1⟩, h2⟩, h3⟩ := h
    exact ⟨re_inD ok.room (sE ok a _ h1).1 (sE ok b _ h2).1 h3, fun _ => rt_inD ok.room (sE ok a _ h1).1 (sE ok b _ h2).1 h3⟩
  | .idxD a b, e, h => by simp [chk] at h
  | .inT ng a b, e, h => by
    simp only [chk] at h
    split at h
    case h_2 => cases h
    simp only [Bool.and_eq_true, decide_eq_true_eq, Bool.not_eq_true'] at h
    obtain ⟨⟨⟨rfl, h1⟩, h2⟩, h3⟩ := h
    exact ⟨re_inT ok.room (sE ok a _ h1).1 (sE ok b _ h2).1 h3, fun _ => rt_inT ok.room (sE ok a _ h1).1 (sE ok b _ h2).1 h3⟩
theorem sEs {ck : Ck} {X : Cx} (ok : OkE ck C X) : ∀ (xs : Exs) (es : List Expr), chks ck xs es = true → RA X es (evs C xs)
  | .nil, es, h => by
    simp only [chks, List.isEmpty_iff] at h
    subst h
    exact ra_nil
  | .cons x xs, es, h => by
    cases es with
    | nil => simp [chks] at h
    | cons e es =>
      simp only [chks, Bool.and_eq_true] at h
      exact ra_cons h.1.1 (sE ok x e h.1.2).1 (sEs ok xs es h.2)
theorem sK {ck : Ck} {X : Cx} (ok : OkE ck C X) : ∀ (xs : Exs) (ks : List Keyword), chkK ck xs ks = true → PK X ks (tDs X.kw (evs C xs))
  | .nil, ks, h => by
    simp only [chkK, List.isEmpty_iff] at h
    subst h
    exact pk_imp pk_nil tDs_nil
  | .cons x xs, ks, h => by
    cases ks with
    | nil => simp [chkK] at h
    | cons k ks =>
      simp only [chkK, Bool.and_eq_true] at h
      obtain ⟨nm, e, p⟩ := k
      exact pk_imp (pk_cons (sE ok x e h.1).1 (sK ok xs ks h.2)) tDs_cons
theorem sO {ck : Ck} {X : Cx} (ok : OkE ck C X) : ∀ (x : Ox) (o : Option Expr), chkO ck x o = true → RO X o (evO C x)
  | .no, o, h => by
    simp only [chkO, Option.isNone_iff_eq_none] at h
    subst h
    exact ro_none
  | .so x, o, h => by
    cases o with
    | none => simp [chkO] at h
    | some e =>
      simp only [chkO] at h
      exact ro_some (sE ok x e h).1
theorem sC {ck : Ck} {X : Cx} (ok : OkE ck C X) : ∀ (x : Ox) (l : List Expr), chkC ck x l = true → PTs X l (tDT X.kw (tstO C x))
  | .no, l, h => by
    simp only [chkC, List.isEmpty_iff] at h
    subst h
    refine ⟨fun pins s σ H Q I q => pts_nil.run pins s σ H Q I ?_⟩
    obtain ⟨ρ, σd, h, b, h', rs, rh, e, o⟩ := q
    simp only [tstO, Option.some.injEq, Prod.mk.injEq] at e
    obtain ⟨rfl, rfl⟩ := e
    exact o H ρ (Ext.refl _ _) rh
  | .so x, l, h => by
    simp only [chkC] at h
    split at h
    case h_2 => cases h
    simp only [Bool.and_eq_true] at h
    exact pts_one ((sE ok x _ h.2).2 h.1)
theorem sB {ck : Ck} {X : Cx} (ok : OkE ck C X) (i : Bool) : ∀ (xs : Exs) (es : List Expr) (pos : Pos), chks ck xs es = true → RE X (.BoolOp (if i then .And else .Or) es pos) (evB C i xs) ∧ (tstOks xs = true → RW X (.BoolOp (if i then .And else .Or) es pos) (tstM (evB C i xs)))
  | .nil, es, pos, h => ⟨⟨fun pins s σ H Q I q => by
    obtain ⟨ρ, σd, h, b, h', rs, rh, e, o⟩ := q
    simp [evB] at e⟩, fun _ => ⟨fun wh pins s σ H Q I q => by
    obtain ⟨ρ, σd, h, b, h', rs, rh, e, o⟩ := q
    simp [tstM, evB] at e⟩⟩
  | .cons x .nil, es, pos, h => by
    cases es with
    | nil => simp [chks] at h
    | cons e es =>
      simp only [chks, Bool.and_eq_true, List.isEmpty_iff] at h
      obtain ⟨⟨_, h1⟩, rfl⟩ := h
      have hx := sE ok x e h1
      refine ⟨re_one hx.1, fun ht => ?_⟩
      simp only [tstOks, Bool.and_true] at ht
      cases i with
      | true => exact rw_and1 (hx.2 ht)
      | false => exact rw_or1 (hx.2 ht)
  | .cons x (.cons y ys), es, pos, h => by
    cases es with
    | nil => simp [chks] at h
    | cons e es =>
      have h' : chks ck (.cons y ys) es = true := by
        simp only [chks, Bool.and_eq_true] at h
        simp only [chks]
        exact h.2
      have h1 : chk ck x e = true := by
        simp only [chks, Bool.and_eq_true] at h
        exact h.1.2
      have ih := sB ok i (.cons y ys) es pos h'
      have hx := sE ok x e h1
      cases es with
      | nil => simp [chks] at h'
      | cons e2 er =>
        have sp : tstOks (.cons x (.cons y ys)) = true → tstOk x = true ∧ tstOks (.cons y ys) = true := fun ht => by
          simp only [tstOks, Bool.and_eq_true] at ht ⊢
          exact ht
        cases i with
        | true => exact ⟨re_and hx.1 ih.1, fun ht => rw_and (hx.2 (sp ht).1) (ih.2 (sp ht).2)⟩
        | false => exact ⟨re_or hx.1 ih.1, fun ht => rw_or (hx.2 (sp ht).1) (ih.2 (sp ht).2)⟩
theorem sF {ck : Ck} {X : Cx} (ok : OkE ck C X) : ∀ (x : Fx) (e : Expr), chkF ck x e = true → RF X e (evF C x)
  | .disp es, e, h => by
    simp only [chkF] at h
    split at h
    case h_2 => cases h
    simp only [Bool.and_eq_true, decide_eq_true_eq] at h
    have hl := (chks_len h.2).1
    exact rf_disp (sEs ok es _ h.2) h.1 fun σ hh ds h' e => by rw [evs_len C _ _ _ _ _ e, hl]
  | .rep a n, e, h => by
    simp only [chkF] at h
    split at h
    case h_2 => cases h
    simp only [Bool.and_eq_true] at h
    exact rf_rep (sE ok a _ h.1).1 (sE ok n _ h.2).1
  | .cat a b, e, h => by
    simp only [chkF] at h
    split at h
    case h_2 => cases h
    simp only [Bool.and_eq_true] at h
    exact rf_cat (sE ok a _ h.1).1 (sE ok b _ h.2).1
  | .ofSeq x, e, h => by
    simp only [chkF] at h
    split at h
    case h_2 => cases h
    simp only [Bool.and_eq_true, decide_eq_true_eq] at h
    obtain ⟨⟨⟨rfl, h1⟩, h2⟩, h3⟩ := h
    exact rf_ofSeq (ok.gl _ h1) (ok.blt _ (by decide)) (sE ok x _ h3).1 h2
  | .srt x, e, h => by
    simp only [chkF] at h
    split at h
    case h_2 => cases h
    simp only [Bool.and_eq_true, decide_eq_true_eq] at h
    obtain ⟨⟨⟨rfl, h1⟩, h2⟩, h3⟩ := h
    exact rf_srt ok.calm (ok.gl _ h1) (ok.blt _ (by decide)) (sE ok x _ h3).1 h2
  | .rng1 b, e, h => by
    simp only [chkF] at h
    split at h
    case h_2 => cases h
    simp only [Bool.and_eq_true, decide_eq_true_eq] at h
    obtain ⟨⟨⟨⟨⟨rfl, rfl⟩, h1⟩, h2⟩, h3⟩, h4⟩ := h
    exact rf_rng1 ok.calm (ok.gl _ h1) (ok.blt _ (by decide)) (ok.gl _ h2) (ok.blt _ (by decide)) (sE ok b _ h4).1 h3
  | .rng2 a b, e, h => by
    simp only [chkF] at h
    split at h
    case h_2 => cases h
    simp only [Bool.and_eq_true, decide_eq_true_eq] at h
    obtain ⟨⟨⟨⟨⟨⟨⟨rfl, rfl⟩, h1⟩, h2⟩, h3⟩, h4⟩, h5⟩, h6⟩ := h
    exact rf_rng2 ok.calm (ok.gl _ h1) (ok.blt _ (by decide)) (ok.gl _ h2) (ok.blt _ (by decide)) (sE ok a _ h5).1 h3 (sE ok b _ h6).1 h4
  | .cut a lo hi, e, h => by
    simp only [chkF] at h
    split at h
    case h_2 => cases h
    simp only [Bool.and_eq_true] at h
    exact rf_cut (sE ok a _ h.1.1).1 (sO ok lo _ h.1.2) (sO ok hi _ h.2)
  | .rev a, e, h => by
    simp only [chkF] at h
    split at h
    case h_2 => cases h
    exact rf_rev (sE ok a _ h).1
theorem sI {ck : Ck} {X : Cx} (ok : OkE ck C X) : ∀ (x : It) (t e : Expr), chkI ck x t e = true → RI X t e (evI C x)
  | .seq x, t, e, h => by
    simp only [chkI] at h
    exact ri_seq (sE ok x e h).1
  | .rng1 b, t, e, h => by
    simp only [chkI] at h
    split at h
    case h_2 => cases h
    simp only [Bool.and_eq_true, decide_eq_true_eq] at h
    obtain ⟨⟨⟨rfl, h1⟩, h2⟩, h3⟩ := h
    exact ri_rng1 (p1 := ⟨0, 0, 0, 0⟩) (ok.gl _ h1) (ok.blt _ (by decide)) (sE ok b _ h3).1 h2
  | .rng2 a b, t, e, h => by
    simp only [chkI] at h
    split at h
    case h_2 => cases h
    simp only [Bool.and_eq_true, decide_eq_true_eq] at h
    obtain ⟨⟨⟨⟨⟨rfl, h1⟩, h2⟩, h3⟩, h4⟩, h5⟩ := h
    exact ri_rng2 (ok.gl _ h1) (ok.blt _ (by decide)) (sE ok a _ h4).1 h2 (sE ok b _ h5).1 h3
  | .enum a, t, e, h => by
    simp only [chkI] at h
    split at h
    case h_2 => cases h
    simp only [Bool.and_eq_true, decide_eq_true_eq] at h
    obtain ⟨⟨⟨rfl, h1⟩, h2⟩, h3⟩ := h
    exact ri_enum (ok.gl _ h1) (ok.blt _ (by decide)) (sE ok a _ h3).1 h2
  | .zip a b, t, e, h => by
    simp only [chkI] at h
    split at h
    case h_2 => cases h
    simp only [Bool.and_eq_true, decide_eq_true_eq] at h
    obtain ⟨⟨⟨⟨⟨rfl, h1⟩, h2⟩, h3⟩, h4⟩, h5⟩ := h
    exact ri_zip (ok.gl _ h1) (ok.blt _ (by decide)) (sE ok a _ h4).1 h2 (sE ok b _ h5).1 h3
end
end
end PyD

namespace PyD
open PySem PySem.Spec PyProof.Rows L2
def swNames (sc : Scope) (ts : List Expr) : List Str :=
  let line := (ts.head?.map (·.pos.line)).getD 0
  ts.filterMap fun
      | .Name id pos => if sc.names.lookup id == some .local && pos.line == line then some id else none
      | _ => none
/-- how a, b = x, y stores: none: not told; some none: as a tuple; some names: from behind -/
def swp (sc : Scope) (ts vs : List Expr) : Option (Option (List Str)) :=
  if !(ts.length == 2 || ts.length == 3) || vs.length != ts.length then some none
  else if vs.any fun | .Starred .. => true | _ => false then some none
  else if (swNames sc ts).length != ts.length || (swNames sc ts).eraseDups.length != (swNames sc ts).length then some none
    else if vs.all (foldedForSure 8) then some none
    else if vs.all (constantsAlone 8) then none
    else some (some (swNames sc ts))
theorem swp_ok {env : Env} {ts vs : List Expr} {k k2 : Nat} {p p2 : Pos} {r : Option (List Str)} (hk : env.scope.kind = .function) (h : swp env.scope ts vs = some r) : swappedStores [.Tuple ts k p] (.Tuple vs k2 p2) env = pure r := by
  have hb : env.blockKind = .function := by unfold Env.blockKind; rw [hk]; rfl
  unfold swappedStores
  dsimp only
  rw [hb]
  unfold swp at h
  split at h
  · rename_i c
    cases h
    exact if_pos (by rw [c]; rfl)
  rename_i c1
  refine (if_neg (by simpa using c1)).trans ?_
  split at h
  · rename_i c
    cases h
    exact if_pos c
  rename_i c2
  refine (if_neg c2).trans ?_
  split at h
  · rename_i c
    cases h
    exact if_pos c
  rename_i c3
  refine (if_neg c3).trans ?_
  split at h
  · rename_i c
    cases h
    exact if_pos c
  rename_i c4
  refine (if_neg c4).trans ?_
  split at h
  · cases h
  rename_i c5
  cases h
  exact (if_neg c5)
theorem sws_no {env : Env} {ts : List Expr} {e : Expr} {k : Nat} {p : Pos} (h : (match e with | .Tuple .. => false | _ => true) = true) : swappedStores [.Tuple ts k p] e env = pure none := by
  cases e <;> first | rfl | simp at h
/-- whether a comprehension's value goes straight into the name -/
def swB (sc : Scope) (x : Str) (px : Pos) : Expr → Bool
  | .ListComp _ _ s p => sc.names.lookup x == some .local && px.line == p.line && !(s.names.any fun (n, k) => n == x && (k == .local || k == .cell))
  | _ => false
def isLC : Expr → Bool
  | .ListComp .. => true
  | _ => false
theorem swB_ok {env : Env} {x : Str} {px : Pos} {e : Expr} {l : Nat} (hk : env.scope.kind = .function) (h : isLC e = true ∨ notComp e = true) : swapsWith e (some (.Name x px)) l env = pure (swB env.scope x px e) := by
  have hb : env.blockKind = .function := by unfold Env.blockKind; rw [hk]; rfl
  rcases h with h | h
  · cases e with
    | ListComp a b s p =>
      unfold swapsWith
      dsimp only
      rw [hb]
      rfl
    | _ => simp [isLC] at h
  · rw [swaps_no h]
    cases e <;> first | rfl | simp [notComp] at h
mutual
def chkS (ck : Ck) : S → Stmt → Bool
  | .set i e, st => (match st with
    | .Assign [.Name x px] e' pos => decide (ck.N[i]? = some x) && ck.loc x && chk ck e e' && (isLC e' || notComp e')
    | _ => false)
  | .par2 i j a b, st => (match st with
    | .Assign [.Tuple [.Name x px, .Name y py] kt pt] (.Tuple [a', b'] k2 pt2) pos => decide (ck.N[i]? = some x) && decide (ck.N[j]? = some y) && decide (i ≠ j) && decide (ck.sc.names.lookup x = some .local) && decide (ck.sc.names.lookup y = some .local) &&
      chk ck a a' && chk ck b b' && plainE a' && plainE b' && decide (swp ck.sc [.Name x px, .Name y py] [a', b'] = some (some [x, y]))
    | _ => false)
  | .par3 i j l a b c, st => (match st with
    | .Assign [.Tuple [.Name x px, .Name y py, .Name z pz] kt pt] (.Tuple [a', b', c'] k2 pt2) pos => decide (ck.N[i]? = some x) && decide (ck.N[j]? = some y) && decide (ck.N[l]? = some z) && decide (i ≠ j) && decide (i ≠ l) && decide (j ≠ l) &&
      decide (ck.sc.names.lookup x = some .local) && decide (ck.sc.names.lookup y = some .local) && decide (ck.sc.names.lookup z = some .local) &&
      chk ck a a' && chk ck b b' && chk ck c c' && plainE a' && plainE b' && plainE c' && decide (swp ck.sc [.Name x px, .Name y py, .Name z pz] [a', b', c'] = some (some [x, y, z]))
    | _ => false)
  | .asg t e, st => (match st with
    | .Assign [.Tuple ts kt pt] e' pos => chk ck e e' && chkT ck t (.Tuple ts kt pt) && notComp e' && (match e' with
      | .Tuple vs _ _ => decide (swp ck.sc ts vs = some none)
      | _ => true)
    | _ => false)
  | .aug i op e, st => (match st with
    | .AugAssign (.Name x px) op' e' pos => decide (op = .add ∨ op = .sub) && decide (bopP op = op') && decide (ck.N[i]? = some x) && ck.loc x && chk ck e e'
    | _ => false)
  | .setIx o i e, st => (match st with
    | .Assign [.Subscript o' i' p] e' pos => chk ck e e' && chk ck o o' && chk ck i i' && plainE i' && notComp e'
    | _ => false)
  | .setD o i e, st => (match st with
    | .Assign [.Subscript o' i' p] e' pos => chk ck e e' && chk ck o o' && chk ck i i' && plainE i' && notComp e'
    | _ => false)
  | .setI o i e, st => (match st with
    | .Assign [.Subscript o' i' p] e' pos => chk ck e e' && chk ck o o' && chk ck i i' && plainE i' && notComp e'
    | _ => false)
  | .expr e, st => (match st with
    | .Expr e' pos => notComp e' && chk ck e e'
    | _ => false)
  | .ret e, st => (match st with
    | .Return (some e') pos => chk ck e e'
    | _ => false)
  | .retN, st => (match st with
    | .Return none pos => true
    | _ => false)
  | .ite c t e, st => (match st with
    | .If c' t' e' pos => tstOk c && chk ck c c' && chkSs ck t t' && chkSs ck e e'
    | _ => false)
  | .whl c b, st => (match st with
    | .While c' b' [] pos => tstOk c && chk ck c c' && chkSs ck b b'
    | _ => false)
  | .for_ t it b, st => (match st with
    | .For t' it' b' [] pos => chkT ck t t' && chkI ck it t' it' && !isSet it' && plainE it' && chkSs ck b b'
    | _ => false)
  | .brk, st => (match st with
    | .Break _ => true
    | _ => false)
  | .cnt, st => (match st with
    | .Continue _ => true
    | _ => false)
  | .pass, st => (match st with
    | .Pass _ => true
    | _ => false)
def chkSs (ck : Ck) : Ss → List Stmt → Bool
  | .nil, l => l.isEmpty
  | .cons s ss, l => (match l with
    | st :: sts => chkS ck s st && chkSs ck ss sts
    | [] => false)
end
section
variable {C : Nat → Fun} {fuel : Nat}
theorem rs_setLc {ck : Ck} {X : Cx} (ok : OkE ck C X) {elt tg iter : Expr} {ifs : List Expr} {sc : Scope} {pos spos : Pos} {own : List Nat} {mi : Sl → AH → Option (List D × Option Nat × AH)} {t : Tg} {mc : Sl → AH → Option (Bool × AH)} {me : Sl → AH → Option (D × AH)}
    {i : Nat} {y : Str} {py : Pos} (hy : X.N[i]? = some y) (hyl : X.env.scope.names.lookup y = some .local) (hsw : swapsWith (.ListComp elt [⟨tg, iter, ifs, 0⟩] sc pos) (some (.Name y py)) spos.line X.env = pure true)
    (hi : RI X tg iter mi) (hb : blkC ck.N ck.sc sc (own.map fun i => (ck.N.getD i Str.empty, i)) = true) (hs : isSet iter = false) (hp : plainE iter = true) (hv : (slots t).all (fun i => decide (i ∈ own)) = true)
    (hg : ∀ X', OkE (ck.inn sc) C X' → X'.kw = X.kw → RG X' tg t) (hc : ∀ X', OkE (ck.inn sc) C X' → X'.kw = X.kw → PTs X' ifs (tDT X'.kw mc)) (he : ∀ X', OkE (ck.inn sc) C X' → X'.kw = X.kw → RE X' elt me) :
    RS X (.Assign [.Name y py] (.ListComp elt [⟨tg, iter, ifs, 0⟩] sc pos) spos) (fun σ h => (((mi σ h).bind fun (xs, n, h1) => if xs.length ≤ lim then (compL (wipe σ own) t n xs.length mc me xs 0 h1).bind fun (ds, h2) => some (.lst ds, h2) else none)).bind fun (d, h1) => some (.nx, σ.set i (some d), h1)) := by
  have bo := ok.blkOk hb
  have e : (own.map fun i => (ck.N.getD i Str.empty, i)).map (·.2) = own := by
    rw [List.map_map]
    show own.map (fun i => i) = own
    simp
  have hN : X.N.Nodup := by rw [ok.hN]; exact ok.nd
  refine (ps_setLc (wi := tI X.kw mi) (g := gD X.kw t) (tt := tDT X.kw mc) (te := tD X.kw me) ok.calm hN hy hyl hsw hi bo (fun s H Ca cl fp => hg _ (ok.blk sc bo.kind s H Ca cl fp) rfl) (fun s H Ca cl fp => hc _ (ok.blk sc bo.kind s H Ca cl fp) rfl) (fun s H Ca cl fp => he _ (ok.blk sc bo.kind s H Ca cl fp) rfl)
    (fun x => folded_no hp (by cases iter <;> first | rfl | simp [isSet] at hs) _ _)).imp fun D σ H q => ?_
  rw [e]
  exact tAsg_imp (X := X) (i := i) (m := fun σ h => ((mi σ h).bind fun (xs, n, h1) => if xs.length ≤ lim then (compL (wipe σ own) t n xs.length mc me xs 0 h1).bind fun (ds, h2) => some (.lst ds, h2) else none)) (fun σ H Q q => tLc_imp (fun i hi => by simpa using List.all_eq_true.mp hv i hi) σ H Q q) D σ H q
mutual
theorem sS {ck : Ck} {X : Cx} (ok : OkE ck C X) (hsc : X.env.scope = ck.sc) : ∀ (s : S) (st : Stmt), chkS ck s st = true → RS X st (ex C fuel s)
  | .set i e, st, h => by
    simp only [chkS] at h
    split at h
    case h_2 => cases h
    rename_i x px e' pos
    simp only [Bool.and_eq_true, decide_eq_true_eq, Bool.or_eq_true] at h
    obtain ⟨⟨⟨h1, h2⟩, h3⟩, h4⟩ := h
    have hN : X.N.Nodup := by rw [ok.hN]; exact ok.nd
    have hi : X.N[i]? = some x := by rw [ok.hN]; exact h1
    obtain ⟨l1, l2⟩ := ok.loc _ h2
    have hsw := fun l => swB_ok (x := x) (px := px) (l := l) ok.kind h4
    cases hs : swB X.env.scope x px e' with
    | false => exact rs_set hN hi l1 l2 (sE ok e e' h3).1 (by rw [hsw, hs])
    | true =>
      have h3' := h3
      cases e with
      | comp elt tg it cond own =>
        simp only [chk] at h3
        split at h3
        case h_2 => cases h3
        rename_i elt' tg' iter' ifs' sc' pos'
        simp only [Bool.and_eq_true, Bool.not_eq_true'] at h3
        obtain ⟨⟨⟨⟨⟨⟨⟨g1, g2⟩, g3⟩, g4⟩, g5⟩, g6⟩, g7⟩, g8⟩ := h3
        have hl : X.env.scope.names.lookup x = some .local := by
          simp only [swB, Bool.and_eq_true, beq_iff_eq] at hs
          exact hs.1.1
        exact rs_setLc ok hi hl (by rw [hsw, hs]) (sI ok it tg' iter' g1) g4 g2 g3 g6 (fun X' ok' _ => sT ok' tg tg' g5) (fun X' ok' _ => sC ok' cond ifs' g7) (fun X' ok' _ => (sE ok' elt elt' g8).1)
      | _ =>
        exfalso
        cases e' <;> first | (simp [swB] at hs; done) | skip
        all_goals (simp only [chk] at h3'; try split at h3')
        all_goals first | cases h3' | skip
        all_goals (rename_i f _ _ _ _; cases f <;> (simp only [chkF] at h3'; try split at h3') <;> cases h3')
  | .par2 i j a b, st, h => by
    simp only [chkS] at h
    split at h
    case h_2 => cases h
    simp only [Bool.and_eq_true, decide_eq_true_eq] at h
    obtain ⟨⟨⟨⟨⟨⟨⟨⟨⟨h1, h2⟩, h3⟩, h4⟩, h5⟩, h6⟩, h7⟩, h8⟩, h9⟩, h10⟩ := h
    exact rs_par2 ok.calm (by rw [ok.hN]; exact ok.nd) (by rw [ok.hN]; exact h1) (by rw [ok.hN]; exact h2) h3 (by rw [hsc]; exact h4) (by rw [hsc]; exact h5) (sE ok a _ h6).1 (sE ok b _ h7).1 h8 h9 (swp_ok ok.kind (by rw [hsc]; exact h10))
  | .par3 i j l a b c, st, h => by
    simp only [chkS] at h
    split at h
    case h_2 => cases h
    simp only [Bool.and_eq_true, decide_eq_true_eq] at h
    obtain ⟨⟨⟨⟨⟨⟨⟨⟨⟨⟨⟨⟨⟨⟨⟨h1, h2⟩, h3⟩, h4⟩, h5⟩, h6⟩, h7⟩, h8⟩, h9⟩, h10⟩, h11⟩, h12⟩, h13⟩, h14⟩, h15⟩, h16⟩ := h
    exact rs_par3 ok.calm (by rw [ok.hN]; exact ok.nd) (by rw [ok.hN]; exact h1) (by rw [ok.hN]; exact h2) (by rw [ok.hN]; exact h3) h4 h5 h6 (by rw [hsc]; exact h7) (by rw [hsc]; exact h8) (by rw [hsc]; exact h9) (sE ok a _ h10).1 (sE ok b _ h11).1 (sE ok c _ h12).1 h13 h14 h15 (swp_ok ok.kind (by rw [hsc]; exact h16))
  | .asg t e, st, h => by
    simp only [chkS] at h
    split at h
    case h_2 => cases h
    rename_i ts kt pt e' pos
    simp only [Bool.and_eq_true] at h
    obtain ⟨⟨⟨h1, h2⟩, h3⟩, h4⟩ := h
    refine rs_asg (sE ok e _ h1).1 (sT ok t _ h2) rfl (swaps_no h3 _ _ _) ?_
    cases e' with
    | Tuple vs k p => exact swp_ok ok.kind (by rw [hsc]; simpa using h4)
    | _ => exact sws_no rfl
  | .aug i op e, st, h => by
    simp only [chkS] at h
    split at h
    case h_2 => cases h
    simp only [Bool.and_eq_true, decide_eq_true_eq] at h
    obtain ⟨⟨⟨⟨h1, rfl⟩, h3⟩, h4⟩, h5⟩ := h
    obtain ⟨l1, l2⟩ := ok.loc _ h4
    exact rs_aug h1 (by rw [ok.hN]; exact ok.nd) (by rw [ok.hN]; exact h3) l1 l2 (sE ok e _ h5).1
  | .setIx o i e, st, h => by
    simp only [chkS] at h
    split at h
    case h_2 => cases h
    simp only [Bool.and_eq_true] at h
    obtain ⟨⟨⟨⟨h1, h2⟩, h3⟩, h4⟩, h5⟩ := h
    exact rs_setIx (sE ok e _ h1).1 (sE ok o _ h2).1 (sE ok i _ h3).1 h4 h5
  | .setD o i e, st, h => by
    simp only [chkS] at h
    split at h
    case h_2 => cases h
    simp only [Bool.and_eq_true] at h
    obtain ⟨⟨⟨⟨h1, h2⟩, h3⟩, h4⟩, h5⟩ := h
    exact rs_setD ok.room (sE ok e _ h1).1 (sE ok o _ h2).1 (sE ok i _ h3).1 h4 h5
  | .setI o i e, st, h => by
    simp only [chkS] at h
    split at h
    case h_2 => cases h
    simp only [Bool.and_eq_true] at h
    obtain ⟨⟨⟨⟨h1, h2⟩, h3⟩, h4⟩, h5⟩ := h
    exact rs_setI ok.room (sE ok e _ h1).1 (sE ok o _ h2).1 (sE ok i _ h3).1 h4 h5
  | .expr e, st, h => by
    simp only [chkS] at h
    split at h
    case h_2 => cases h
    simp only [Bool.and_eq_true] at h
    exact rs_expr h.1 (sE ok e _ h.2).1
  | .ret e, st, h => by
    simp only [chkS] at h
    split at h
    case h_2 => cases h
    exact rs_ret (sE ok e _ h).1
  | .retN, st, h => by
    simp only [chkS] at h
    split at h
    case h_2 => cases h
    exact rs_retN
  | .ite c t e, st, h => by
    simp only [chkS] at h
    split at h
    case h_2 => cases h
    simp only [Bool.and_eq_true] at h
    exact rs_if ((sE ok c _ h.1.1.2).2 h.1.1.1) (sSs ok hsc t _ h.1.2) (sSs ok hsc e _ h.2)
  | .whl c b, st, h => by
    simp only [chkS] at h
    split at h
    case h_2 => cases h
    simp only [Bool.and_eq_true] at h
    exact rs_while (by rw [ok.xe]; exact PassesOwn.never) ((sE ok c _ h.1.2).2 h.1.1) (sSs ok hsc b _ h.2)
  | .for_ t it b, st, h => by
    simp only [chkS] at h
    split at h
    case h_2 => cases h
    simp only [Bool.and_eq_true, Bool.not_eq_true'] at h
    obtain ⟨⟨⟨⟨h1, h2⟩, h3⟩, h4⟩, h5⟩ := h
    exact rs_for (by rw [ok.xe]; exact PassesOwn.never) ok.calm (sI ok it _ _ h2) (sT ok t _ h1) (sSs ok hsc b _ h5) (fun x => folded_no h4 (by rename_i it' _ _; cases it' <;> first | rfl | simp [isSet] at h3) _ _)
  | .brk, st, h => by
    simp only [chkS] at h
    split at h
    case h_2 => cases h
    exact rs_brk
  | .cnt, st, h => by
    simp only [chkS] at h
    split at h
    case h_2 => cases h
    exact rs_cnt
  | .pass, st, h => by
    simp only [chkS] at h
    split at h
    case h_2 => cases h
    exact rs_pass
theorem sSs {ck : Ck} {X : Cx} (ok : OkE ck C X) (hsc : X.env.scope = ck.sc) : ∀ (ss : Ss) (sts : List Stmt), chkSs ck ss sts = true → RSs X sts (exs C fuel ss)
  | .nil, sts, h => by
    simp only [chkSs, List.isEmpty_iff] at h
    subst h
    exact rss_nil
  | .cons s ss, sts, h => by
    cases sts with
    | nil => simp [chkSs] at h
    | cons st sts =>
      simp only [chkSs, Bool.and_eq_true] at h
      exact rss_cons (sS ok hsc s st h.1) (sSs ok hsc ss sts h.2)
end
end
end PyD

/-! PyD11: defs: what the small language computes is what the text computes. -/
namespace PyD
open PySem PySem.Spec PyProof.Rows L2

def Df.NS (d : Df) : List Str := d.N.map Str.ofString
def Df.xS (d : Df) : Str := Str.ofString d.x
theorem Df.NSlen (d : Df) : d.NS.length = d.N.length := by simp [Df.NS]
def kwsOf (L : List Df) : List (Nat × Nat × List Str) := (L.mapIdx fun i d => d.kws.map fun p => (i, p.1, p.2.map Str.ofString)).flatten
def dflOf (L : List Df) : List (Nat × Nat × List D) := (L.mapIdx fun i d => d.dfl.map fun p => (i, p.1, p.2)).flatten
theorem kwsOf_mem {L : List Df} {i j : Nat} {ks : List Str} (h : (i, j, ks) ∈ kwsOf L) : ∃ d ks', L[i]? = some d ∧ (j, ks') ∈ d.kws ∧ ks = ks'.map Str.ofString := by
  unfold kwsOf at h
  obtain ⟨l, hl, hm⟩ := List.mem_flatten.mp h
  obtain ⟨n, hn, e⟩ := List.mem_mapIdx.mp hl
  subst e
  obtain ⟨p, hp, e⟩ := List.mem_map.mp hm
  cases e
  exact ⟨L[i], p.2, List.getElem?_eq_getElem hn, hp, rfl⟩
theorem dflOf_mem {L : List Df} {i j : Nat} {ds : List D} (h : (i, j, ds) ∈ dflOf L) : ∃ d, L[i]? = some d ∧ (j, ds) ∈ d.dfl := by
  unfold dflOf at h
  obtain ⟨l, hl, hm⟩ := List.mem_flatten.mp h
  obtain ⟨n, hn, e⟩ := List.mem_mapIdx.mp hl
  subst e
  obtain ⟨p, hp, e⟩ := List.mem_map.mp hm
  cases e
  exact ⟨L[i], List.getElem?_eq_getElem hn, hp⟩
/-- a def as it stands, whatever its defaults -/
def FunE (K : Kw) (x : Str) (st : Stmt) (f : Addr) (fd : FuncData) : Prop := ∃ dvs, FunD K x x (defArgs st) (defBody st) (defScope st) dvs [] f fd
theorem FunE.kp {K : Kw} {x : Str} {st : Stmt} {f : Addr} {fd : FuncData} (F : FunE K x st f fd) : PySem.W.keepIn K (.ref f) = true := let ⟨_, g⟩ := F; g.kp
theorem FunE.of {K : Kw} {x : Str} {st : Stmt} {f : Addr} {fd : FuncData} (F : L2.Fun K x x st f fd) : FunE K x st f fd := by
  obtain ⟨oc, od, kV, doc, pm, an, cdv, ct, osl, e, l, c⟩ := F.ex
  exact ⟨[], ⟨oc, od, .none, kV, doc, pm, an, cdv, ct, osl, e, l, c, .inl ⟨rfl, rfl⟩, .inl rfl⟩, F.kp⟩
/-- what calls of a def by keywords and with defaults lean on -/
structure More (K : Kw) (fd : FuncData) (ps : List Str) (d : Df) : Prop where
  kw : ∀ j ks, (j, ks) ∈ d.kws → KBinds K fd ps (ks.map Str.ofString) (gJ j) (gJ j)
  df : ∀ j ds, (j, ds) ∈ d.dfl → ∃ dvs dus, Binds K fd ps dus ∧ Vals dvs dus ∧ ∀ ρ H, DVs K ρ H ds dvs
def ckOf (L : List Df) (cst : List (Str × D)) (d : Df) (sc : Scope) : Ck := ⟨d.NS, sc, L.map fun d => (d.xS, d.ar), cst, kwsOf L, dflOf L⟩
/-- the look at a def -/
def okDef (L : List Df) (cst : List (Str × D)) (d : Df) (st : Stmt) : Bool := chkSs (ckOf L cst d (defScope st)) d.b (defBody st)

section
variable {P : Program} {K : Kw} {mg : Str → Option Value} {base : Heap} {L : List Df} {fuel : Nat} {cst : List (Str × D)}
/-- what is known of a def of the text -/
structure DfOk (K : Kw) (mg : Str → Option Value) (L : List Df) (cst : List (Str × D)) (d : Df) : Prop where
  ex : ∃ st f fd ps, ps.length = d.ar ∧ FunE K d.xS st f fd ∧ FnScope d.NS ps (defScope st) ∧ okDef L cst d st = true ∧ mg d.xS = some (.ref f) ∧ Binds K fd ps [] ∧ More K fd ps d
structure TabOk (K : Kw) (mg : Str → Option Value) (L : List Df) (cst : List (Str × D)) : Prop where
  fns : ∀ (i : Nat) (d : Df), L[i]? = some d → DfOk K mg L cst d
  cst : ∀ x d, (x, d) ∈ cst → ∃ u v, mg x = some u ∧ RelV v u ∧ ∀ ρ H, DV K ρ H d v
  blt : ∀ x ∈ bltNames, mg x = none
theorem more_kw {i : Nat} {fd : FuncData} {ps : List Str} {d : Df} (hd : L[i]? = some d) (m : More K fd ps d) : ∀ j ks, (i, j, ks) ∈ kwsOf L → KBinds K fd ps ks (gJ j) (gJ j) := fun j ks h => by
  obtain ⟨d', ks', e1, e2, rfl⟩ := kwsOf_mem h
  rw [hd] at e1; cases e1
  exact m.kw j ks' e2
theorem more_df {i : Nat} {fd : FuncData} {ps : List Str} {d : Df} (hd : L[i]? = some d) (m : More K fd ps d) : ∀ j ds, (i, j, ds) ∈ dflOf L → ∃ dvs dus, Binds K fd ps dus ∧ Vals dvs dus ∧ ∀ ρ H, DVs K ρ H ds dvs := fun j ds h => by
  obtain ⟨d', e1, e2⟩ := dflOf_mem h
  rw [hd] at e1; cases e1
  exact m.df j ds e2
theorem startD {ρ : Rho} {H : Hp} {N : List Str} {ds : List D} {vs : List V} (q : DVs K ρ H ds vs) : RepS K ρ H (L2.start N vs) (ds.map some ++ List.replicate (N.length - ds.length) none) := by
  have hl := q.length
  refine ⟨by simp [L2.start, hl], fun i d h => ?_⟩
  by_cases hi : i < ds.length
  · rw [List.getElem?_append_left (by simpa using hi), List.getElem?_map] at h
    have hd : ds[i]? = some d := by
      cases z : ds[i]? with
      | none => simp [z] at h
      | some y => simp [z] at h; rw [h]
    obtain ⟨v, e, y⟩ := q.get hd
    refine ⟨v, ?_, y⟩
    unfold L2.start
    rw [List.getElem?_append_left (by simp; omega), List.getElem?_map, e]; rfl
  · rw [List.getElem?_append_right (by simp; omega)] at h
    have := (List.getElem?_eq_some_iff.mp h).2
    simp at this
theorem def_ok {k : Nat} {C : Nat → Fun} {d : Df} {st : Stmt} {f : Addr} {fd : FuncData} {ps : List Str} (F : FunE K d.xS st f fd) (S : FnScope d.NS ps (defScope st)) (hps : ps.length = d.ar) (hc : okDef L cst d st = true) (T : TabOk K mg L cst)
    (hf : ∀ (i : Nat) (name : Str) (ar : Nat), (L.map fun d => (d.xS, d.ar))[i]? = some (name, ar) → ∃ f fd ps, FnOk P K.w K mg base CX0 k f fd ps (spD K ar (C i)) ∧ mg name = some (.ref f) ∧ PySem.W.keepIn K (.ref f) = true ∧ Binds K fd ps [] ∧ (∀ j ks, (i, j, ks) ∈ kwsOf L → KBinds K fd ps ks (gJ j) (gJ j)) ∧ (∀ j ds, (i, j, ds) ∈ dflOf L → ∃ dvs dus, Binds K fd ps dus ∧ Vals dvs dus ∧ ∀ ρ H, DVs K ρ H ds dvs)) :
    FnOk P K.w K mg base CX0 (k + 1) f fd ps (spD K d.ar (run C d.m fuel d.N.length d.b)) := by
  obtain ⟨dvs, F⟩ := F
  refine F.ok S (fun vs H Q E h => h.1.trans hps.symm) (fun cdv A outer s H vs Q E hr h => ?_)
  obtain ⟨_, ρ, h, ds, d0, h', rh, q, e, o⟩ := h
  refine ⟨tS K (exs C fuel d.b), ?_, ?_⟩
  · refine PSs.nox ?_
    refine sSs (X := (cxOf CX0 P K.w K mg base d.NS d.xS (defScope st) f cdv A outer s H E).nox) (ck := ckOf L cst d (defScope st)) ⟨rfl, S.nd, fun x hx => ?_, fun x hx => ?_, fun x hx => ?_, fun x hx => hx, S.kind, rfl, rfl, ⟨k, hr, hf⟩, T.cst, T.blt⟩ rfl d.b (defBody st) hc
    · unfold Ck.vis at hx
      show (defScope st).names.lookup x = _ ∨ (defScope st).names.lookup x = _ ∨ (defScope st).names.lookup x = _
      have hx : (match (defScope st).names.lookup x with | some .local => true | some .cell => true | some .free => true | _ => false) = true := hx
      split at hx <;> simp_all
    · have hx : (match (defScope st).names.lookup x with | some .globalImplicit => true | _ => false) = true := hx
      show (defScope st).names.lookup x = _
      split at hx <;> simp_all
    · have hx : (match (defScope st).names.lookup x with | some .local => true | some .cell => true | _ => false) = true := hx
      show ((defScope st).names.lookup x = _ ∨ (defScope st).names.lookup x = _) ∧ _
      refine ⟨?_, .inl rfl⟩
      split at hx <;> simp_all
  · unfold run at e
    cases ee : exs C fuel d.b (ds.map some ++ List.replicate (d.N.length - ds.length) none) h with
    | none => simp [ee] at e
    | some p =>
      obtain ⟨fl, σ1, h1⟩ := p
      simp only [ee, Option.bind_some] at e
      refine ⟨ρ, _, h, fl, σ1, h1, by have := startD (N := d.NS) q; rw [d.NSlen] at this; exact this, rh, ee, fun σ' H' ρ' ex rs r1 => ?_⟩
      cases fl with
      | nx => exact fin_ok rh e o _ H' ρ' ex r1 DV.non'
      | rt d2 => exact fun v qv => fin_ok rh e o v H' ρ' ex r1 qv
      | bk => simp at e
      | ct => simp at e
/-- each def keeps its promise -/
theorem tab_ok (T : TabOk K mg L cst) : ∀ (k i : Nat) (d : Df), L[i]? = some d → ∃ f fd ps, ps.length = d.ar ∧ FnOk P K.w K mg base CX0 k f fd ps (spD K d.ar (tabF L fuel k i)) ∧ mg d.xS = some (.ref f) ∧ PySem.W.keepIn K (.ref f) = true ∧ Binds K fd ps [] ∧ More K fd ps d
  | 0, i, d, hd => by
    obtain ⟨st, f, fd, ps, hps, F, S, hc, hm, hb, hmo⟩ := (T.fns i d hd).ex
    refine ⟨f, fd, ps, hps, ⟨fun vs H Q E h => h.1.trans hps.symm, fun A outer s H args us vs Q E hr he hb hv hs => ?_⟩, hm, F.kp, hb, hmo⟩
    obtain ⟨_, ρ, h, ds, d0, h', rh, q, e, o⟩ := hs
    simp [tabF] at e
  | k + 1, i, d, hd => by
    obtain ⟨st, f, fd, ps, hps, F, S, hc, hm, hb, hmo⟩ := (T.fns i d hd).ex
    refine ⟨f, fd, ps, hps, ?_, hm, F.kp, hb, hmo⟩
    have e : tabF L fuel (k + 1) i = run (tabF L fuel k) d.m fuel d.N.length d.b := by
      show (match L[i]? with | some d => run (tabF L fuel k) d.m fuel d.N.length d.b | none => fun _ _ => none) = _
      rw [hd]
    rw [e]
    refine def_ok F S hps hc T fun j name ar hj => ?_
    rw [List.getElem?_map] at hj
    cases z : L[j]? with
    | none => simp [z] at hj
    | some d2 =>
      simp [z] at hj
      obtain ⟨rfl, rfl⟩ := hj
      obtain ⟨f2, fd2, ps2, _, g1, g2, g3, g4, g5⟩ := tab_ok T k j d2 z
      exact ⟨f2, fd2, ps2, g1, g2, g3, g4, more_kw z g5, more_df z g5⟩
/-- the law's promise, from what it computes -/
def spLaw (n : Nat) (K : PySem.W.Frag) : Sp := fun vs H Q _ => ∃ (a : Addr) (ns : List Int), vs = [.ref a] ∧ SqL K H a (ns.map V.int) ∧ ns.length ≤ n ∧ ∀ v H', v = .bl true → Q v H'
theorem rol_of {H : Hp} {a : Addr} {ns : List Int} (h : SqL K H a (ns.map V.int)) : DV K ⟨[], []⟩ H (.rol (ns.map .int)) (.ref a) := by
  simp only [DV]
  refine ⟨a, ns.map V.int, rfl, ?_, DVs.of_ints ns⟩
  rcases h with h | h
  · exact .inl ⟨h, fun m => m.elim (fun m => by cases m) fun m => by cases m⟩
  · exact .inr h
theorem law_ok {k n i : Nat} {d : Df} (T : TabOk K mg L cst) (hd : L[i]? = some d) (har : d.ar = 1) (hx : d.xS = ("law" : Str)) {f : Addr} (hm : mg ("law" : Str) = some (.ref f))
    (h : ∀ ns : List Int, ns.length ≤ n → ∃ h', tabF L fuel k i [.rol (ns.map .int)] [] = some (.bl true, h')) :
    ∃ fd ps, ps.length = 1 ∧ FnOk P K.w K mg base CX0 k f fd ps (spLaw n K) ∧ Binds K fd ps [] := by
  obtain ⟨f2, fd, ps, hl, F, hm2, _, hb, _⟩ := tab_ok (P := P) (base := base) (fuel := fuel) T k i d hd
  rw [hx] at hm2
  rw [hm] at hm2
  cases hm2
  rw [har] at hl F
  refine ⟨fd, ps, hl, F.imp fun vs H Q E hs => ?_, hb⟩
  obtain ⟨a, ns, rfl, hS, hlen, q⟩ := hs
  obtain ⟨h', e⟩ := h ns hlen
  exact ⟨rfl, ⟨[], []⟩, [], [.rol (ns.map .int)], .bl true, h', ⟨rfl, List.nodup_nil, fun a m => (by cases m), fun n a o z => (by simp at z)⟩, DVs.one (rol_of hS), e, fun v H' ρ' _ _ q1 => q v H' q1⟩
end
end PyD
namespace PyD
open PySem PySem.Spec PyProof.Rows L2
section
variable {K : Kw} {mg : Str → Option Value} {L : List Df} {cst : List (Str × D)}
theorem fns_nil {T : List Df} : ∀ (i : Nat) (d : Df), ([] : List Df)[i]? = some d → DfOk K mg T cst d := fun i d h => by simp at h
theorem fns_cons {T l : List Df} {d : Df} (h : DfOk K mg T cst d) (r : ∀ (i : Nat) (d : Df), l[i]? = some d → DfOk K mg T cst d) : ∀ (i : Nat) (d' : Df), (d :: l)[i]? = some d' → DfOk K mg T cst d'
  | 0, d', e => by simp at e; subst e; exact h
  | i + 1, d', e => r i d' (by simpa using e)
theorem DfOk.mk' {d : Df} {st : Stmt} {f : Addr} {fd : FuncData} {ps : List Str} (hl : ps.length = d.ar) (F : FunE K d.xS st f fd) (S : FnScope d.NS ps (defScope st)) (hc : okDef L cst d st = true) (hm : mg d.xS = some (.ref f)) (hb : Binds K fd ps []) (hmo : More K fd ps d) : DfOk K mg L cst d :=
  ⟨⟨st, f, fd, ps, hl, F, S, hc, hm, hb, hmo⟩⟩
theorem More.none {fd : FuncData} {ps : List Str} {d : Df} (h1 : d.kws = []) (h2 : d.dfl = []) : More K fd ps d := ⟨fun j ks h => (by rw [h1] at h; cases h), fun j ds h => (by rw [h2] at h; cases h)⟩
abbrev CstOk (K : Kw) (mg : Str → Option Value) (x : Str) (d : D) : Prop := ∃ u v, mg x = some u ∧ RelV v u ∧ ∀ ρ H, DV K ρ H d v
theorem cst_nil : ∀ (x : Str) (d : D), (x, d) ∈ ([] : List (Str × D)) → CstOk K mg x d := fun x d h => by simp at h
theorem cst_cons {l : List (Str × D)} {x0 : Str} {d0 : D} (h : CstOk K mg x0 d0) (r : ∀ (x : Str) (d : D), (x, d) ∈ l → CstOk K mg x d) : ∀ (x : Str) (d : D), (x, d) ∈ (x0, d0) :: l → CstOk K mg x d := fun x d m => by
  rcases List.mem_cons.mp m with z | z
  · cases z; exact h
  · exact r x d z
/-- a value of the text's top that stays -/
abbrev KD (K : Kw) (d : D) (v : V) : Prop := ∀ ρ H, DV K ρ H d v
abbrev KDs (K : Kw) (ds : List D) (vs : List V) : Prop := ∀ ρ H, DVs K ρ H ds vs
theorem KDs.nil : KDs K [] [] := fun _ _ => DVs.nil
theorem KDs.cons {d : D} {v : V} {ds : List D} {vs : List V} (h : KD K d v) (g : KDs K ds vs) : KDs K (d :: ds) (v :: vs) := fun ρ H => DVs.cons (h ρ H) (g ρ H)
theorem KD.tup {a : Addr} {od : Option Addr} {its : Array Value} {n : Nat} {sl : Array (Option Value)} {ds : List D} {vs : List V} (l : K.k.lookup a = some ⟨.type "tuple", od, .seq its n, sl⟩) (hs : its.size ≤ sizeLine) (hv : Vals vs its.toList) (hd : KDs K ds vs) : KD K (.tup ds) (.ref a) := fun ρ H => by
  simp only [DV]
  exact ⟨a, vs, rfl, .inr ⟨_, its, n, l, rfl, rfl, hs, hv⟩, hd ρ H⟩
theorem KD.int (i : Int) : KD K (.int i) (.int i) := fun _ _ => DV.int' _
theorem KD.str (s : String) : KD K (.str s) (.str (Str.ofString s)) := fun _ _ => DV.str' _
theorem KD.bl (b : Bool) : KD K (.bl b) (.bl b) := fun _ _ => DV.bl' _
theorem KD.non : KD K .non .non := fun _ _ => DV.non'
theorem CstOk.mk' {x : Str} {d : D} {u : Value} {v : V} (h : mg x = some u) (r : RelV v u) (k : KD K d v) : CstOk K mg x d := ⟨u, v, h, r, k⟩
end
end PyD
namespace PyD
open PySem PySem.Spec PyProof.Rows L2
theorem law_fn {P : Program} {K : Kw} {mg : Str → Option Value} {base : Heap} {L : List Df} {fuel : Nat} {cst : List (Str × D)} {k n i : Nat} {d : Df} {st : Stmt} {f : Addr} {fd : FuncData} {ps : List Str} (T : TabOk K mg L cst) (hd : L[i]? = some d)
    (F : FunE K d.xS st f fd) (S : FnScope d.NS ps (defScope st)) (hps : ps.length = d.ar) (har : d.ar = 1) (hc : okDef L cst d st = true)
    (h : ∀ ns : List Int, ns.length ≤ n → ∃ h', tabF L fuel (k + 1) i [.rol (ns.map .int)] [] = some (.bl true, h')) : FnOk P K.w K mg base CX0 (k + 1) f fd ps (spLaw n K) := by
  have e : tabF L fuel (k + 1) i = run (tabF L fuel k) d.m fuel d.N.length d.b := by
    show (match L[i]? with | some d => run (tabF L fuel k) d.m fuel d.N.length d.b | none => fun _ _ => none) = _
    rw [hd]
  rw [e] at h
  have G : FnOk P K.w K mg base CX0 (k + 1) f fd ps (spD K d.ar (run (tabF L fuel k) d.m fuel d.N.length d.b)) := def_ok F S hps hc T fun j name ar hj => by
    rw [List.getElem?_map] at hj
    cases z : L[j]? with
    | none => simp [z] at hj
    | some d2 =>
      simp [z] at hj
      obtain ⟨rfl, rfl⟩ := hj
      obtain ⟨f2, fd2, ps2, _, g1, g2, g3, g4, g5⟩ := tab_ok (P := P) (base := base) (fuel := fuel) T k j d2 z
      exact ⟨f2, fd2, ps2, g1, g2, g3, g4, more_kw z g5, more_df z g5⟩
  rw [har] at G
  refine G.imp fun vs H Q E hs => ?_
  obtain ⟨a, ns, rfl, hS, hlen, q⟩ := hs
  obtain ⟨h', e⟩ := h ns hlen
  exact ⟨rfl, ⟨[], []⟩, [], [.rol (ns.map .int)], .bl true, h', ⟨rfl, List.nodup_nil, fun a m => (by cases m), fun n a o z => (by simp at z)⟩, DVs.one (rol_of hS), e, fun v H' ρ' _ _ q1 => q v H' q1⟩
end PyD
namespace PyD
open PySem PySem.Spec PyProof.Rows L2
theorem kb_of {K : Kw} {fd : FuncData} {ps ks : List Str} {j : Nat} (h : ∀ us ws : List Value, us.length = j → ws.length = ks.length → bindArgs fd ⟨us, ks.zip ws⟩ = pure (ps.zip (us ++ ws))) (hl : j + ks.length = ps.length) (h0 : 0 < ps.length) : KBinds K fd ps ks (gJ j) (gJ j) where
  to := fun s us ws _ e => by
    unfold gJ at e ⊢
    split at e
    · rename_i hj
      rw [if_pos hj]
      rw [List.length_append] at e
      exact .of_eq (h us ws hj (by omega))
    · simp at e; omega
  rel := gJ_rel
/-- a def with defaults -/
theorem fund_mk {K : Kw} {x : Str} {st : Stmt} {f T : Addr} {oc kV doc pm cdv ct ot : Value} {od an odT : Option Addr} {osl slT : Array (Option Value)} {ta : Array Value} {n : Nat} {dvs : List V}
    (l : K.k.lookup f = some ⟨oc, od, .func (PySem.W.fnOf x x (defArgs st) (defBody st) (defScope st) (.ref T) kV doc pm an cdv ct), osl⟩) (c : PySem.W.codeIn K cdv x = true) (k : PySem.W.keepIn K (.ref f) = true)
    (t : K.k.lookup T = some ⟨ot, odT, .seq ta n, slT⟩) (v : Vals dvs ta.toList) (ne : dvs ≠ []) : FunD K x x (defArgs st) (defBody st) (defScope st) dvs [] f (PySem.W.fnOf x x (defArgs st) (defBody st) (defScope st) (.ref T) kV doc pm an cdv ct) :=
  ⟨⟨oc, od, .ref T, kV, doc, pm, an, cdv, ct, osl, rfl, l, c, .inr ⟨ne, T, _, ta.toList, n, rfl, t, by simp, v⟩, .inl rfl⟩, k⟩
/-- all is given: no default is asked for -/
theorem binds_all {K : Kw} {x : Str} {st : Stmt} {f : Addr} {fd : FuncData} {dvs : List V} {ps : List Str} (F : FunD K x x (defArgs st) (defBody st) (defScope st) dvs [] f fd) (hd : dvs ≠ [])
    (h : ∀ (T : Addr) (kV doc pm : Value) (an : Option Addr) (cdv ct : Value) (us its : List Value), us.length = ps.length → its.length = dvs.length →
      ∃ k, bindArgs (PySem.W.fnOf x x (defArgs st) (defBody st) (defScope st) (.ref T) kV doc pm an cdv ct) ⟨us, []⟩ = seqItems? (.ref T) >>= k ∧ k (some its.toArray) = pure (ps.zip (us ++ its.drop dvs.length))) : Binds K fd ps [] := by
  obtain ⟨ds, r, b⟩ := F.binds1 ps.length dvs.length hd (by omega) h
  rw [List.drop_length] at r
  cases r
  exact b
end PyD

/-! PyDB: the small language, run by simp: each construct's equation, what follows named. -/
namespace PyD
section
variable (C : Nat → Fun) (fuel : Nat)
abbrev Rd2 := Option (D × AH)
def kOut (h : AH) (d : D) : Rd2 := some (d, h)
@[simp] theorem kOut_eq (h : AH) (d : D) : kOut h d = some (d, h) := rfl
def kBin (op : Bop) (b : Ex) (σ : Sl) : D × AH → Rd2 := fun p => (ev C b σ p.2).bind fun q => (binop op p.1 q.1).bind (kOut q.2)
def kBin2 (op : Bop) (x : D) : D × AH → Rd2 := fun q => (binop op x q.1).bind (kOut q.2)
@[simp] theorem ev_bin (op a b σ h) : ev C (.bin op a b) σ h = (ev C a σ h).bind (kBin C op b σ) := rfl
@[simp] theorem kBin_ap (op b σ x h) : kBin C op b σ (x, h) = (ev C b σ h).bind (kBin2 op x) := rfl
@[simp] theorem kBin2_ap (op x y h) : kBin2 op x (y, h) = (binop op x y).bind (kOut h) := rfl
def kvar : Option (Option D) → AH → Rd2
  | some (some d), h => some (d, h)
  | _, _ => none
@[simp] theorem kvar_ap (d h) : kvar (some (some d)) h = some (d, h) := rfl
@[simp] theorem ev_var (i σ h) : ev C (.var i) σ h = kvar σ[i]? h := by
  rcases e : σ[i]? with _ | _ | _ <;> simp [ev, kvar, e]
@[simp] theorem ev_non (σ h) : ev C .non σ h = some (.non, h) := rfl
@[simp] theorem ev_bl (b σ h) : ev C (.bl b) σ h = some (.bl b, h) := rfl
@[simp] theorem ev_int (i σ h) : ev C (.int i) σ h = some (.int i, h) := rfl
@[simp] theorem ev_str (s σ h) : ev C (.str s) σ h = some (.str s, h) := rfl
@[simp] theorem ev_glob (x d σ h) : ev C (.glob x d) σ h = some (d, h) := rfl
def kTup : List D × AH → Rd2 := fun p => some (.tup p.1, p.2)
@[simp] theorem kTup_ap (ds h) : kTup (ds, h) = some (.tup ds, h) := rfl
@[simp] theorem ev_tup (es σ h) : ev C (.tup es) σ h = (evs C es σ h).bind kTup := rfl
def kFv : List D × AH → Rd2 := fun p => some (.lst p.1, p.2)
@[simp] theorem kFv_ap (ds h) : kFv (ds, h) = some (.lst ds, h) := rfl
@[simp] theorem ev_fv (f σ h) : ev C (.fv f) σ h = (evF C f σ h).bind kFv := rfl
def kFm : List D × AH → Rd2 := fun p => some (.ref p.2.length, p.2 ++ [.lst p.1])
@[simp] theorem kFm_ap (ds h) : kFm (ds, h) = some (.ref h.length, h ++ [.lst ds]) := rfl
@[simp] theorem ev_fm (f σ h) : ev C (.fm f) σ h = (evF C f σ h).bind kFm := rfl
def kNeg : D × AH → Rd2 := fun p => match p.1 with
  | .int i => some (.int (-i), p.2)
  | _ => none
@[simp] theorem kNeg_ap (i h) : kNeg (.int i, h) = some (.int (-i), h) := rfl
@[simp] theorem ev_neg (a σ h) : ev C (.neg a) σ h = (ev C a σ h).bind kNeg := rfl
def kOutB (h : AH) (b : Bool) : Rd2 := some (.bl b, h)
@[simp] theorem kOutB_eq (h b) : kOutB h b = some (.bl b, h) := rfl
def kCmp2 (op : Cop) (x : D) : D × AH → Rd2 := fun q => (cmpop op x q.1 q.2).bind (kOutB q.2)
def kCmp (op : Cop) (b : Ex) (σ : Sl) : D × AH → Rd2 := fun p => (ev C b σ p.2).bind (kCmp2 op p.1)
@[simp] theorem ev_cmp (op a b σ h) : ev C (.cmp op a b) σ h = (ev C a σ h).bind (kCmp C op b σ) := rfl
@[simp] theorem kCmp_ap (op b σ x h) : kCmp C op b σ (x, h) = (ev C b σ h).bind (kCmp2 op x) := rfl
@[simp] theorem kCmp2_ap (op x y h) : kCmp2 op x (y, h) = (cmpop op x y h).bind (kOutB h) := rfl
def kChain4 (op' : Cop) (y : D) : D × AH → Rd2 := fun p => (cmpop op' y p.1 p.2).bind (kOutB p.2)
def kChain3 (op' : Cop) (y : D) (c : Ex) (σ : Sl) (h : AH) : Bool → Rd2 := fun k => if k then (ev C c σ h).bind (kChain4 op' y) else some (.bl false, h)
def kChain2 (op op' : Cop) (x : D) (c : Ex) (σ : Sl) : D × AH → Rd2 := fun p => (cmpop op x p.1 p.2).bind (kChain3 C op' p.1 c σ p.2)
def kChain (op op' : Cop) (b c : Ex) (σ : Sl) : D × AH → Rd2 := fun p => (ev C b σ p.2).bind (kChain2 C op op' p.1 c σ)
@[simp] theorem ev_chain (op op' a b c σ h) : ev C (.chain op op' a b c) σ h = (ev C a σ h).bind (kChain C op op' b c σ) := rfl
@[simp] theorem kChain_ap (op op' b c σ x h) : kChain C op op' b c σ (x, h) = (ev C b σ h).bind (kChain2 C op op' x c σ) := rfl
@[simp] theorem kChain2_ap (op op' x c σ y h) : kChain2 C op op' x c σ (y, h) = (cmpop op x y h).bind (kChain3 C op' y c σ h) := rfl
@[simp] theorem kChain3_t (op' y c σ h) : kChain3 C op' y c σ h true = (ev C c σ h).bind (kChain4 op' y) := rfl
@[simp] theorem kChain3_f (op' y c σ h) : kChain3 C op' y c σ h false = some (.bl false, h) := rfl
@[simp] theorem kChain4_ap (op' y z h) : kChain4 op' y (z, h) = (cmpop op' y z h).bind (kOutB h) := rfl
@[simp] theorem ev_bop (i es σ h) : ev C (.bop i es) σ h = evB C i es σ h := rfl
def kNot : D × AH → Rd2 := fun p => (truth p.1 p.2).bind fun k => some (.bl (!k), p.2)
def kNot2 (h : AH) (k : Bool) : Rd2 := some (.bl (!k), h)
@[simp] theorem kNot2_ap (h k) : kNot2 h k = some (.bl (!k), h) := rfl
@[simp] theorem kNot_ap (d h) : kNot (d, h) = (truth d h).bind (kNot2 h) := rfl
@[simp] theorem ev_not (a σ h) : ev C (.not a) σ h = (ev C a σ h).bind kNot := rfl
def kIte2 (a b : Ex) (σ : Sl) (h : AH) (k : Bool) : Rd2 := if k then ev C a σ h else ev C b σ h
def kIte (a b : Ex) (σ : Sl) : D × AH → Rd2 := fun p => (truth p.1 p.2).bind (kIte2 C a b σ p.2)
@[simp] theorem kIte2_t (a b σ h) : kIte2 C a b σ h true = ev C a σ h := rfl
@[simp] theorem kIte2_f (a b σ h) : kIte2 C a b σ h false = ev C b σ h := rfl
@[simp] theorem kIte_ap (a b σ d h) : kIte C a b σ (d, h) = (truth d h).bind (kIte2 C a b σ h) := rfl
@[simp] theorem ev_ite (c a b σ h) : ev C (.ite c a b) σ h = (ev C c σ h).bind (kIte C a b σ) := rfl
def kIdx2 (x : D) : D × AH → Rd2 := fun q => (index x q.1 q.2).bind (kOut q.2)
def kIdx (b : Ex) (σ : Sl) : D × AH → Rd2 := fun p => (ev C b σ p.2).bind (kIdx2 p.1)
@[simp] theorem ev_idx (a b σ h) : ev C (.idx a b) σ h = (ev C a σ h).bind (kIdx C b σ) := rfl
@[simp] theorem kIdx_ap (b σ x h) : kIdx C b σ (x, h) = (ev C b σ h).bind (kIdx2 x) := rfl
@[simp] theorem kIdx2_ap (x y h) : kIdx2 x (y, h) = (index x y h).bind (kOut h) := rfl
def kSlc3 (x : D) (l : Option Int) : Option Int × AH → Rd2 := fun p => match x with
  | .tup xs => some (.tup (cut xs l p.1), p.2)
  | _ => none
def kSlc2 (hi : Ox) (σ : Sl) (x : D) : Option Int × AH → Rd2 := fun p => (evO C hi σ p.2).bind (kSlc3 x p.1)
def kSlc (lo hi : Ox) (σ : Sl) : D × AH → Rd2 := fun p => (evO C lo σ p.2).bind (kSlc2 C hi σ p.1)
@[simp] theorem ev_slc (a lo hi σ h) : ev C (.slc a lo hi) σ h = (ev C a σ h).bind (kSlc C lo hi σ) := rfl
@[simp] theorem kSlc_ap (lo hi σ x h) : kSlc C lo hi σ (x, h) = (evO C lo σ h).bind (kSlc2 C hi σ x) := rfl
@[simp] theorem kSlc2_ap (hi σ x l h) : kSlc2 C hi σ x (l, h) = (evO C hi σ h).bind (kSlc3 x l) := rfl
@[simp] theorem kSlc3_ap (xs l u h) : kSlc3 (.tup xs) l (u, h) = some (.tup (cut xs l u), h) := rfl
def kCall (f : Nat) : List D × AH → Rd2 := fun p => callC (C f) p.1 p.2
@[simp] theorem ev_call (f args σ h) : ev C (.call f args) σ h = (evs C args σ h).bind (kCall C f) := rfl
@[simp] theorem kCall_ap (f ds h) : kCall C f (ds, h) = callC (C f) ds h := rfl
def kCK2 (f : Nat) (ds : List D) : List D × AH → Rd2 := fun p => callC (C f) (ds ++ p.1) p.2
def kCK (f : Nat) (kws : Exs) (σ : Sl) : List D × AH → Rd2 := fun p => (evs C kws σ p.2).bind (kCK2 C f p.1)
@[simp] theorem ev_callK (f args kws σ h) : ev C (.callK f args kws) σ h = (evs C args σ h).bind (kCK C f kws σ) := rfl
@[simp] theorem kCK_ap (f kws σ ds h) : kCK C f kws σ (ds, h) = (evs C kws σ h).bind (kCK2 C f ds) := rfl
@[simp] theorem kCK2_ap (f ds es h) : kCK2 C f ds (es, h) = callC (C f) (ds ++ es) h := rfl
def kCD (f : Nat) (dfl : List D) : List D × AH → Rd2 := fun p => callC (C f) (p.1 ++ dfl) p.2
@[simp] theorem ev_callD (f args dfl σ h) : ev C (.callD f args dfl) σ h = (evs C args σ h).bind (kCD C f dfl) := rfl
@[simp] theorem kCD_ap (f dfl ds h) : kCD C f dfl (ds, h) = callC (C f) (ds ++ dfl) h := rfl
def kBlt (b : Blt) : List D × AH → Rd2 := fun p => (bltf b p.1 p.2).bind (kOut p.2)
@[simp] theorem ev_blt (b args σ h) : ev C (.blt b args) σ h = (evs C args σ h).bind (kBlt b) := rfl
@[simp] theorem kBlt_ap (b ds h) : kBlt b (ds, h) = (bltf b ds h).bind (kOut h) := rfl
def kIsi (t : Ty) : D × AH → Rd2 := fun p => (isTyH p.1 t p.2).bind fun k => some (.bl k, p.2)
@[simp] theorem kIsi_ap (t d h) : kIsi t (d, h) = (isTyH d t h).bind fun k => some (.bl k, h) := rfl
@[simp] theorem isTyH_non (t h) : isTyH .non t h = some (isTy .non t) := rfl
@[simp] theorem isTyH_bl (b t h) : isTyH (.bl b) t h = some (isTy (.bl b) t) := rfl
@[simp] theorem isTyH_int (b t h) : isTyH (.int b) t h = some (isTy (.int b) t) := rfl
@[simp] theorem isTyH_str (b t h) : isTyH (.str b) t h = some (isTy (.str b) t) := rfl
@[simp] theorem isTyH_tup (b t h) : isTyH (.tup b) t h = some (isTy (.tup b) t) := rfl
@[simp] theorem isTyH_lst (b t h) : isTyH (.lst b) t h = some (isTy (.lst b) t) := rfl
@[simp] theorem isTyH_rol (b t h) : isTyH (.rol b) t h = some (isTy (.rol b) t) := rfl
theorem isTyH_ref {n t h ds} (e : h[n]? = some (.lst ds)) : isTyH (.ref n) t h = some (isTy (.ref n) t) := by simp only [isTyH, e]
@[simp] theorem ev_isi (a t σ h) : ev C (.isi a t) σ h = (ev C a σ h).bind (kIsi t) := rfl
def kComp (elt : Ex) (tg : Tg) (cond : Ox) (own : List Nat) (σ : Sl) : List D × Option Nat × AH → Rd2 := fun p =>
  if p.1.length ≤ lim then (compL (wipe σ own) tg p.2.1 p.1.length (tstO C cond) (ev C elt) p.1 0 p.2.2).bind kFv else none
@[simp] theorem ev_comp (elt tg it cond own σ h) : ev C (.comp elt tg it cond own) σ h = (evI C it σ h).bind (kComp C elt tg cond own σ) := rfl
theorem kComp_ap (elt tg cond own σ xs n h) (hl : xs.length ≤ lim) : kComp C elt tg cond own σ (xs, n, h) = (compL (wipe σ own) tg n xs.length (tstO C cond) (ev C elt) xs 0 h).bind kFv := if_pos hl
def kApp2 (x : D) : D × AH → Rd2 := fun p => match x with
  | .ref n => (match p.2[n]? with
    | some (.lst ds) => if ds.length < lim then some (.non, p.2.set n (.lst (ds ++ [p.1]))) else none
    | _ => none)
  | _ => none
def kApp (e : Ex) (σ : Sl) : D × AH → Rd2 := fun p => (litems p.1 p.2).bind fun _ => (ev C e σ p.2).bind (kApp2 p.1)
@[simp] theorem ev_app (l e σ h) : ev C (.app l e) σ h = (ev C l σ h).bind (kApp C e σ) := rfl
@[simp] theorem kApp_ap (e σ x h) : kApp C e σ (x, h) = (litems x h).bind fun _ => (ev C e σ h).bind (kApp2 x) := rfl
theorem kApp2_ap {n y h ds} (e : h[n]? = some (.lst ds)) (hl : ds.length < lim) : kApp2 (.ref n) (y, h) = some (.non, h.set n (.lst (ds ++ [y]))) := by
  simp only [kApp2, e]; exact if_pos hl
def kExt3 (x : D) (h : AH) (ys : List D) : Rd2 := match x with
  | .ref n => (match h[n]? with
    | some (.lst ds) => if ds.length + ys.length ≤ lim then some (.non, h.set n (.lst (ds ++ ys))) else none
    | _ => none)
  | _ => none
def kExt2 (x : D) : D × AH → Rd2 := fun p => (mitems p.1 p.2).bind (kExt3 x p.2)
def kExt (e : Ex) (σ : Sl) : D × AH → Rd2 := fun p => (litems p.1 p.2).bind fun _ => (ev C e σ p.2).bind (kExt2 p.1)
@[simp] theorem ev_ext (l e σ h) : ev C (.ext l e) σ h = (ev C l σ h).bind (kExt C e σ) := rfl
@[simp] theorem kExt_ap (e σ x h) : kExt C e σ (x, h) = (litems x h).bind fun _ => (ev C e σ h).bind (kExt2 x) := rfl
theorem kExt2_ap {n y h ds ys} (e : h[n]? = some (.lst ds)) (q : mitems y h = some ys) (hl : ds.length + ys.length ≤ lim) : kExt2 (.ref n) (y, h) = some (.non, h.set n (.lst (ds ++ ys))) := by
  simp only [kExt2, q, Option.bind_some, kExt3, e]; exact if_pos hl
@[simp] theorem ev_dct0 (σ h) : ev C .dct0 σ h = some (.ref h.length, h ++ [.ids []]) := rfl
def kDc2 (x : D) : D × AH → Rd2 := fun p => if kyD x then some (.ref p.2.length, p.2 ++ [.dct [(x, p.1)]]) else none
def kDc (v : Ex) (σ : Sl) : D × AH → Rd2 := fun p => (ev C v σ p.2).bind (kDc2 p.1)
@[simp] theorem ev_dct1 (k v σ h) : ev C (.dct1 k v) σ h = (ev C k σ h).bind (kDc C v σ) := rfl
@[simp] theorem kDc_ap (v σ x h) : kDc C v σ (x, h) = (ev C v σ h).bind (kDc2 x) := rfl
theorem kDc2_ap {x y h} (e : kyD x = true) : kDc2 x (y, h) = some (.ref h.length, h ++ [.dct [(x, y)]]) := if_pos e
def kInD2 (ng : Bool) (x : D) : D × AH → Rd2 := fun p => (dctOf p.1 p.2).bind fun kvs => if kyD x then some (.bl ((dget kvs x).isSome != ng), p.2) else none
def kInD (ng : Bool) (b : Ex) (σ : Sl) : D × AH → Rd2 := fun p => (ev C b σ p.2).bind (kInD2 ng p.1)
@[simp] theorem ev_inD (ng a b σ h) : ev C (.inD ng a b) σ h = (ev C a σ h).bind (kInD C ng b σ) := rfl
@[simp] theorem kInD_ap (ng b σ x h) : kInD C ng b σ (x, h) = (ev C b σ h).bind (kInD2 ng x) := rfl
theorem kInD2_ap {ng x n h kvs} (e : h[n]? = some (.dct kvs)) (q : kyD x = true) : kInD2 ng x (.ref n, h) = some (.bl ((dget kvs x).isSome != ng), h) := by
  simp only [kInD2, dctOf, e, Option.bind_some]; exact if_pos q
def kIdD2 (x : D) : D × AH → Rd2 := fun p => (dctOf x p.2).bind fun kvs => if kyD p.1 then (dget kvs p.1).bind fun z => some (z, p.2) else none
def kIdD (b : Ex) (σ : Sl) : D × AH → Rd2 := fun p => (ev C b σ p.2).bind (kIdD2 p.1)
@[simp] theorem ev_idxD (a b σ h) : ev C (.idxD a b) σ h = (ev C a σ h).bind (kIdD C b σ) := rfl
@[simp] theorem kIdD_ap (b σ x h) : kIdD C b σ (x, h) = (ev C b σ h).bind (kIdD2 x) := rfl
theorem kIdD2_ap {y n h kvs z} (e : h[n]? = some (.dct kvs)) (q : kyD y = true) (g : dget kvs y = some z) : kIdD2 (.ref n) (y, h) = some (z, h) := by
  simp only [kIdD2, dctOf, e, Option.bind_some, q, if_true, g]
def kInT3 (h : AH) (z : D) : Rd2 := some (z, h)
def kInT2 (ng : Bool) (x : D) : D × AH → Rd2 := fun p => (inTD ng x p.1).bind (kInT3 p.2)
def kInT (ng : Bool) (b : Ex) (σ : Sl) : D × AH → Rd2 := fun p => (ev C b σ p.2).bind (kInT2 ng p.1)
@[simp] theorem ev_inT (ng a b σ h) : ev C (.inT ng a b) σ h = (ev C a σ h).bind (kInT C ng b σ) := rfl
@[simp] theorem kInT_ap (ng b σ x h) : kInT C ng b σ (x, h) = (ev C b σ h).bind (kInT2 ng x) := rfl
@[simp] theorem kInT2_ap (ng x y h) : kInT2 ng x (y, h) = (inTD ng x y).bind (kInT3 h) := rfl
@[simp] theorem kInT3_ap (h z) : kInT3 h z = some (z, h) := rfl
theorem inTD_ap {ng x ds} (h1 : closed x = true) (h2 : closeds ds = true) (h3 : depD x ≤ 60) (h4 : depDs ds ≤ 59) : inTD ng x (.tup ds) = some (.bl ((ds.any fun z => eqD z x) != ng)) := by
  simp only [inTD, h1, h2, decide_eq_true h3, decide_eq_true h4]; rfl
abbrev Rds := Option (List D × AH)
def kEs2 (d : D) : List D × AH → Rds := fun q => some (d :: q.1, q.2)
def kEs (es : Exs) (σ : Sl) : D × AH → Rds := fun p => (evs C es σ p.2).bind (kEs2 p.1)
@[simp] theorem evs_nil (σ h) : evs C .nil σ h = some ([], h) := rfl
@[simp] theorem evs_cons (e es σ h) : evs C (.cons e es) σ h = (ev C e σ h).bind (kEs C es σ) := rfl
@[simp] theorem kEs_ap (es σ d h) : kEs C es σ (d, h) = (evs C es σ h).bind (kEs2 d) := rfl
@[simp] theorem kEs2_ap (d ds h) : kEs2 d (ds, h) = some (d :: ds, h) := rfl
def kO : D × AH → Option (Option Int × AH) := fun p => match p.1 with
  | .int i => some (some i, p.2)
  | _ => none
@[simp] theorem kO_ap (i h) : kO (.int i, h) = some (some i, h) := rfl
@[simp] theorem evO_no (σ h) : evO C .no σ h = some (none, h) := rfl
@[simp] theorem evO_so (e σ h) : evO C (.so e) σ h = (ev C e σ h).bind kO := rfl
def kB2 (i : Bool) (es : Exs) (σ : Sl) (d : D) (h : AH) (k : Bool) : Rd2 := if k == i then evB C i es σ h else some (d, h)
def kB (i : Bool) (es : Exs) (σ : Sl) : D × AH → Rd2 := fun p => (truth p.1 p.2).bind (kB2 C i es σ p.1 p.2)
@[simp] theorem evB_one (i e σ h) : evB C i (.cons e .nil) σ h = ev C e σ h := rfl
@[simp] theorem evB_cons (i e e2 es σ h) : evB C i (.cons e (.cons e2 es)) σ h = (ev C e σ h).bind (kB C i (.cons e2 es) σ) := rfl
@[simp] theorem kB_ap (i es σ d h) : kB C i es σ (d, h) = (truth d h).bind (kB2 C i es σ d h) := rfl
@[simp] theorem kB2_tt (es σ d h) : kB2 C true es σ d h true = evB C true es σ h := rfl
@[simp] theorem kB2_tf (es σ d h) : kB2 C true es σ d h false = some (d, h) := rfl
@[simp] theorem kB2_ft (es σ d h) : kB2 C false es σ d h true = some (d, h) := rfl
@[simp] theorem kB2_ff (es σ d h) : kB2 C false es σ d h false = evB C false es σ h := rfl
def kTst2 (h : AH) (k : Bool) : Option (Bool × AH) := some (k, h)
@[simp] theorem kTst2_ap (h k) : kTst2 h k = some (k, h) := rfl
def kTst : D × AH → Option (Bool × AH) := fun p => (truth p.1 p.2).bind (kTst2 p.2)
@[simp] theorem kTst_ap (d h) : kTst (d, h) = (truth d h).bind (kTst2 h) := rfl
@[simp] theorem tst_eq (e σ h) : tst C e σ h = (ev C e σ h).bind kTst := rfl
@[simp] theorem tstO_no (σ h) : tstO C .no σ h = some (true, h) := rfl
@[simp] theorem tstO_so (e σ h) : tstO C (.so e) σ h = (ev C e σ h).bind kTst := rfl
-- new lists
@[simp] theorem evF_disp (es σ h) : evF C (.disp es) σ h = evs C es σ h := rfl
def kRep2 (x : D) : D × AH → Rds := fun p => match p.1 with
  | .int k => (mitems x p.2).bind fun xs => if 0 ≤ k ∧ k ≤ lim ∧ xs.length * k.toNat ≤ lim then some ((List.replicate k.toNat xs).flatten, p.2) else none
  | _ => none
def kRep (n : Ex) (σ : Sl) : D × AH → Rds := fun p => (ev C n σ p.2).bind (kRep2 p.1)
@[simp] theorem evF_rep (a n σ h) : evF C (.rep a n) σ h = (ev C a σ h).bind (kRep C n σ) := rfl
@[simp] theorem kRep_ap (n σ x h) : kRep C n σ (x, h) = (ev C n σ h).bind (kRep2 x) := rfl
theorem kRep2_one {x : D} {n : Nat} {h} (hn : n ≤ lim) : kRep2 (.lst [x]) (.int n, h) = some (List.replicate n x, h) := by
  have : ((List.replicate n [x]).flatten) = List.replicate n x := by
    induction n with
    | zero => rfl
    | succ n ih => rw [List.replicate_succ, List.flatten_cons, ih (by omega)]; rfl
  simp only [kRep2, mitems, Option.bind_some]
  rw [if_pos ⟨by omega, by omega, by simp; omega⟩]
  simp [this]
def kIts : D × AH → Rds := fun p => (items p.1 p.2).bind fun xs => some (xs, p.2)
def kLs (h : AH) (xs : List D) : Rds := some (xs, h)
@[simp] theorem kLs_ap (h xs) : kLs h xs = some (xs, h) := rfl
@[simp] theorem kIts_ap (d h) : kIts (d, h) = (items d h).bind (kLs h) := rfl
@[simp] theorem evF_ofSeq (e σ h) : evF C (.ofSeq e) σ h = (ev C e σ h).bind kIts := rfl
def kR1 : D × AH → Rds := fun p => match p.1 with
  | .int i => (rng 0 i).bind fun xs => some (xs, p.2)
  | _ => none
@[simp] theorem kR1_ap (i h) : kR1 (.int i, h) = (rng 0 i).bind (kLs h) := rfl
@[simp] theorem evF_rng1 (b σ h) : evF C (.rng1 b) σ h = (ev C b σ h).bind kR1 := by
  simp only [evF]
  congr 1
def kR3 (x : D) : D × AH → Rds := fun p => match x, p.1 with
  | .int i, .int j => (rng i j).bind fun xs => some (xs, p.2)
  | _, _ => none
def kR2 (b : Ex) (σ : Sl) : D × AH → Rds := fun p => (ev C b σ p.2).bind (kR3 p.1)
@[simp] theorem kR2_ap (b σ x h) : kR2 C b σ (x, h) = (ev C b σ h).bind (kR3 x) := rfl
@[simp] theorem kR3_ap (i j h) : kR3 (.int i) (.int j, h) = (rng i j).bind (kLs h) := rfl
@[simp] theorem evF_rng2 (a b σ h) : evF C (.rng2 a b) σ h = (ev C a σ h).bind (kR2 C b σ) := rfl
def kRev : D × AH → Rds := fun p => (litems p.1 p.2).bind fun xs => some (xs.reverse, p.2)
def kRev2 (h : AH) (xs : List D) : Rds := some (xs.reverse, h)
@[simp] theorem kRev2_ap (h xs) : kRev2 h xs = some (xs.reverse, h) := rfl
@[simp] theorem kRev_ap (d h) : kRev (d, h) = (litems d h).bind (kRev2 h) := rfl
@[simp] theorem evF_rev (a σ h) : evF C (.rev a) σ h = (ev C a σ h).bind kRev := rfl
def kSrt2 (h : AH) (ks : List Int) : Rds := some ((isort ks).map .int, h)
@[simp] theorem kSrt2_ap (h ks) : kSrt2 h ks = some ((isort ks).map .int, h) := rfl
def kSrt : D × AH → Rds := fun p => (sortOf p.1 p.2).bind (kSrt2 p.2)
@[simp] theorem kSrt_ap (d h) : kSrt (d, h) = (sortOf d h).bind (kSrt2 h) := rfl
@[simp] theorem evF_srt (a σ h) : evF C (.srt a) σ h = (ev C a σ h).bind kSrt := rfl
def kCat2 (x : D) : D × AH → Rds := fun p => (mitems x p.2).bind fun xs => (mitems p.1 p.2).bind fun ys => if xs.length + ys.length ≤ lim then some (xs ++ ys, p.2) else none
def kCat (b : Ex) (σ : Sl) : D × AH → Rds := fun p => (ev C b σ p.2).bind (kCat2 p.1)
@[simp] theorem kCat_ap (b σ x h) : kCat C b σ (x, h) = (ev C b σ h).bind (kCat2 x) := rfl
@[simp] theorem evF_cat (a b σ h) : evF C (.cat a b) σ h = (ev C a σ h).bind (kCat C b σ) := rfl
theorem kCat2_ap {x y : D} {h xs ys} (e1 : mitems x h = some xs) (e2 : mitems y h = some ys) (hl : xs.length + ys.length ≤ lim) : kCat2 x (y, h) = some (xs ++ ys, h) := by
  simp only [kCat2, e1, e2, Option.bind_some]; exact if_pos hl
def kCut3 (x : D) (l : Option Int) : Option Int × AH → Rds := fun p => (litems x p.2).bind fun xs => some (cut xs l p.1, p.2)
def kCut2 (hi : Ox) (σ : Sl) (x : D) : Option Int × AH → Rds := fun p => (evO C hi σ p.2).bind (kCut3 x p.1)
def kCut (lo hi : Ox) (σ : Sl) : D × AH → Rds := fun p => (evO C lo σ p.2).bind (kCut2 C hi σ p.1)
def kCut4 (l u : Option Int) (h : AH) (xs : List D) : Rds := some (cut xs l u, h)
@[simp] theorem kCut4_ap (l u h xs) : kCut4 l u h xs = some (cut xs l u, h) := rfl
@[simp] theorem kCut_ap (lo hi σ x h) : kCut C lo hi σ (x, h) = (evO C lo σ h).bind (kCut2 C hi σ x) := rfl
@[simp] theorem kCut2_ap (hi σ x l h) : kCut2 C hi σ x (l, h) = (evO C hi σ h).bind (kCut3 x l) := rfl
@[simp] theorem kCut3_ap (x l u h) : kCut3 x l (u, h) = (litems x h).bind (kCut4 l u h) := rfl
@[simp] theorem evF_cut (a lo hi σ h) : evF C (.cut a lo hi) σ h = (ev C a σ h).bind (kCut C lo hi σ) := rfl
-- walks
abbrev Rit := Option (List D × Option Nat × AH)
def rfOf : D → Option Nat
  | .ref n => some n
  | _ => none
def kSq2 (n : Option Nat) (h : AH) (xs : List D) : Rit := some (xs, n, h)
@[simp] theorem kSq2_ap (n h xs) : kSq2 n h xs = some (xs, n, h) := rfl
def kSq : D × AH → Rit := fun p => (items p.1 p.2).bind (kSq2 (rfOf p.1) p.2)
@[simp] theorem kSq_ap (d h) : kSq (d, h) = (items d h).bind (kSq2 (rfOf d) h) := rfl
@[simp] theorem rfOf_tup (ds) : rfOf (.tup ds) = none := rfl
@[simp] theorem rfOf_lst (ds) : rfOf (.lst ds) = none := rfl
@[simp] theorem rfOf_rol (ds) : rfOf (.rol ds) = none := rfl
@[simp] theorem rfOf_ref (n) : rfOf (.ref n) = some n := rfl
@[simp] theorem evI_seq (e σ h) : evI C (.seq e) σ h = (ev C e σ h).bind kSq := by
  simp only [evI]
  congr 1
def kI1 : D × AH → Rit := fun p => match p.1 with
  | .int i => (rng 0 i).bind fun xs => some (xs, none, p.2)
  | _ => none
@[simp] theorem kI1_ap (i h) : kI1 (.int i, h) = (rng 0 i).bind (kSq2 none h) := rfl
@[simp] theorem evI_rng1 (b σ h) : evI C (.rng1 b) σ h = (ev C b σ h).bind kI1 := rfl
def kI3 (x : D) : D × AH → Rit := fun p => match x, p.1 with
  | .int i, .int j => (rng i j).bind fun xs => some (xs, none, p.2)
  | _, _ => none
def kI2 (b : Ex) (σ : Sl) : D × AH → Rit := fun p => (ev C b σ p.2).bind (kI3 p.1)
@[simp] theorem kI2_ap (b σ x h) : kI2 C b σ (x, h) = (ev C b σ h).bind (kI3 x) := rfl
@[simp] theorem kI3_ap (i j h) : kI3 (.int i) (.int j, h) = (rng i j).bind (kSq2 none h) := rfl
@[simp] theorem evI_rng2 (a b σ h) : evI C (.rng2 a b) σ h = (ev C a σ h).bind (kI2 C b σ) := rfl
def kEn : D × AH → Rit := fun p => match p.1 with
  | .tup xs => some (xs.mapIdx (fun i d => .tup [.int i, d]), none, p.2)
  | .lst xs => some (xs.mapIdx (fun i d => .tup [.int i, d]), none, p.2)
  | .rol xs => some (xs.mapIdx (fun i d => .tup [.int i, d]), none, p.2)
  | _ => none
@[simp] theorem kEn_tup (xs h) : kEn (.tup xs, h) = some (xs.mapIdx (fun i d => .tup [.int i, d]), none, h) := rfl
@[simp] theorem kEn_lst (xs h) : kEn (.lst xs, h) = some (xs.mapIdx (fun i d => .tup [.int i, d]), none, h) := rfl
@[simp] theorem kEn_rol (xs h) : kEn (.rol xs, h) = some (xs.mapIdx (fun i d => .tup [.int i, d]), none, h) := rfl
@[simp] theorem evI_enum (e σ h) : evI C (.enum e) σ h = (ev C e σ h).bind kEn := rfl
def kZip2 (x : D) : D × AH → Rit := fun p => match x, p.1 with
  | .tup xs, .tup ys => some ((xs.zip ys).map (fun p => .tup [p.1, p.2]), none, p.2)
  | _, _ => none
def kZip (b : Ex) (σ : Sl) : D × AH → Rit := fun p => (ev C b σ p.2).bind (kZip2 p.1)
@[simp] theorem kZip_ap (b σ x h) : kZip C b σ (x, h) = (ev C b σ h).bind (kZip2 x) := rfl
@[simp] theorem kZip2_ap (xs ys h) : kZip2 (.tup xs) (.tup ys, h) = some ((xs.zip ys).map (fun p => .tup [p.1, p.2]), none, h) := rfl
@[simp] theorem evI_zip (a b σ h) : evI C (.zip a b) σ h = (ev C a σ h).bind (kZip C b σ) := rfl
-- statements
abbrev Rs := Option (Fl × Sl × AH)
def kSet (i : Nat) (σ : Sl) : D × AH → Rs := fun p => some (.nx, σ.set i (some p.1), p.2)
@[simp] theorem kSet_ap (i σ d h) : kSet i σ (d, h) = some (.nx, σ.set i (some d), h) := rfl
@[simp] theorem ex_set (i e σ h) : ex C fuel (.set i e) σ h = (ev C e σ h).bind (kSet i σ) := rfl
def kP2 (i j : Nat) (σ : Sl) (x : D) : D × AH → Rs := fun p => some (.nx, (σ.set i (some x)).set j (some p.1), p.2)
def kP1 (i j : Nat) (b : Ex) (σ : Sl) : D × AH → Rs := fun p => (ev C b σ p.2).bind (kP2 i j σ p.1)
@[simp] theorem kP2_ap (i j σ x y h) : kP2 i j σ x (y, h) = some (.nx, (σ.set i (some x)).set j (some y), h) := rfl
@[simp] theorem kP1_ap (i j b σ x h) : kP1 C i j b σ (x, h) = (ev C b σ h).bind (kP2 i j σ x) := rfl
@[simp] theorem ex_par2 (i j a b σ h) : ex C fuel (.par2 i j a b) σ h = (ev C a σ h).bind (kP1 C i j b σ) := rfl
def kQ3 (i j k : Nat) (σ : Sl) (x y : D) : D × AH → Rs := fun p => some (.nx, ((σ.set i (some x)).set j (some y)).set k (some p.1), p.2)
def kQ2 (i j k : Nat) (c : Ex) (σ : Sl) (x : D) : D × AH → Rs := fun p => (ev C c σ p.2).bind (kQ3 i j k σ x p.1)
def kQ1 (i j k : Nat) (b c : Ex) (σ : Sl) : D × AH → Rs := fun p => (ev C b σ p.2).bind (kQ2 C i j k c σ p.1)
@[simp] theorem kQ3_ap (i j k σ x y z h) : kQ3 i j k σ x y (z, h) = some (.nx, ((σ.set i (some x)).set j (some y)).set k (some z), h) := rfl
@[simp] theorem kQ2_ap (i j k c σ x y h) : kQ2 C i j k c σ x (y, h) = (ev C c σ h).bind (kQ3 i j k σ x y) := rfl
@[simp] theorem kQ1_ap (i j k b c σ x h) : kQ1 C i j k b c σ (x, h) = (ev C b σ h).bind (kQ2 C i j k c σ x) := rfl
@[simp] theorem ex_par3 (i j k a b c σ h) : ex C fuel (.par3 i j k a b c) σ h = (ev C a σ h).bind (kQ1 C i j k b c σ) := rfl
def kAsg2 (h : AH) (σ : Sl) : Rs := some (.nx, σ, h)
def kAsg (t : Tg) (σ : Sl) : D × AH → Rs := fun p => (put t p.1 σ).bind (kAsg2 p.2)
@[simp] theorem kAsg2_ap (h σ) : kAsg2 h σ = some (.nx, σ, h) := rfl
@[simp] theorem kAsg_ap (t σ d h) : kAsg t σ (d, h) = (put t d σ).bind (kAsg2 h) := rfl
@[simp] theorem ex_asg (t e σ h) : ex C fuel (.asg t e) σ h = (ev C e σ h).bind (kAsg t σ) := rfl
def kAug2 (i : Nat) (σ : Sl) (h : AH) (z : Int) : Rs := some (.nx, σ.set i (some (.int z)), h)
def kAug3 (i : Nat) (op : Bop) (σ : Sl) (x : Int) : D × AH → Rs := fun p => (augF op x p.1).bind fun z => some (.nx, σ.set i (some z), p.2)
def kAug (i : Nat) (op : Bop) (e : Ex) (σ : Sl) (h : AH) : Option (Option D) → Rs
  | some (some (.int x)) => (ev C e σ h).bind (kAug3 i op σ x)
  | _ => none
@[simp] theorem kAug3_add (i σ x y h) : kAug3 i .add σ x (.int y, h) = some (.nx, σ.set i (some (.int (x + y))), h) := rfl
@[simp] theorem kAug3_sub (i σ x y h) : kAug3 i .sub σ x (.int y, h) = some (.nx, σ.set i (some (.int (x - y))), h) := rfl
@[simp] theorem kAug_ap (i op e σ h x) : kAug C i op e σ h (some (some (.int x))) = (ev C e σ h).bind (kAug3 i op σ x) := rfl
@[simp] theorem ex_aug (i op e σ h) : ex C fuel (.aug i op e) σ h = kAug C i op e σ h σ[i]? := by
  rcases q : σ[i]? with _ | _ | d
  · simp [ex, kAug, q]
  · simp [ex, kAug, q]
  · cases d <;> simp [ex, kAug, q, kAug3] <;> rfl
def kSx3 (σ : Sl) (d x : D) : D × AH → Rs := fun p => match x, p.1 with
    | .ref n, .int k => (match p.2[n]? with
      | some (.lst ds) => (place ds.length k).bind fun j => some (.nx, σ, p.2.set n (.lst (ds.set j d)))
      | _ => none)
    | _, _ => none
def kSx2 (i : Ex) (σ : Sl) (d : D) : D × AH → Rs := fun p => (ev C i σ p.2).bind (kSx3 σ d p.1)
def kSx (o i : Ex) (σ : Sl) : D × AH → Rs := fun p => (ev C o σ p.2).bind (kSx2 C i σ p.1)
@[simp] theorem kSx_ap (o i σ d h) : kSx C o i σ (d, h) = (ev C o σ h).bind (kSx2 C i σ d) := rfl
@[simp] theorem kSx2_ap (i σ d x h) : kSx2 C i σ d (x, h) = (ev C i σ h).bind (kSx3 σ d x) := rfl
theorem kSx3_ap {σ d n k h ds j} (e : h[n]? = some (.lst ds)) (ej : place ds.length k = some j) : kSx3 σ d (.ref n) (.int k, h) = some (.nx, σ, h.set n (.lst (ds.set j d))) := by
  simp only [kSx3, e, ej, Option.bind_some]
@[simp] theorem ex_setIx (o i e σ h) : ex C fuel (.setIx o i e) σ h = (ev C e σ h).bind (kSx C o i σ) := rfl
def kSd3 (σ : Sl) (d x : D) : D × AH → Rs := fun p => match x with
    | .ref n => (match p.2[n]? with
      | some (.dct kvs) => if kyD p.1 && decide (kvs.length < lim) then some (.nx, σ, p.2.set n (.dct (dput kvs p.1 d))) else none
      | _ => none)
    | _ => none
def kSd2 (i : Ex) (σ : Sl) (d : D) : D × AH → Rs := fun p => (ev C i σ p.2).bind (kSd3 σ d p.1)
def kSd (o i : Ex) (σ : Sl) : D × AH → Rs := fun p => (ev C o σ p.2).bind (kSd2 C i σ p.1)
@[simp] theorem kSd_ap (o i σ d h) : kSd C o i σ (d, h) = (ev C o σ h).bind (kSd2 C i σ d) := rfl
@[simp] theorem kSd2_ap (i σ d x h) : kSd2 C i σ d (x, h) = (ev C i σ h).bind (kSd3 σ d x) := rfl
theorem kSd3_ap {σ d n y h kvs} (e : h[n]? = some (.dct kvs)) (q : kyD y = true) (hl : kvs.length < lim) : kSd3 σ d (.ref n) (y, h) = some (.nx, σ, h.set n (.dct (dput kvs y d))) := by
  simp only [kSd3, e, q, Bool.true_and, decide_eq_true hl]; rfl
@[simp] theorem ex_setD (o i e σ h) : ex C fuel (.setD o i e) σ h = (ev C e σ h).bind (kSd C o i σ) := rfl
theorem dput_length (kvs k v) : (dput kvs k v).length ≤ kvs.length + 1 := by
  unfold dput
  split
  · simp
  · simp
def kSi4 (σ : Sl) (h : AH) : Rs := some (.nx, σ, h)
def kSi3 (σ : Sl) (d x : D) : D × AH → Rs := fun p => (putID x p.1 d p.2).bind (kSi4 σ)
def kSi2 (i : Ex) (σ : Sl) (d : D) : D × AH → Rs := fun p => (ev C i σ p.2).bind (kSi3 σ d p.1)
def kSi (o i : Ex) (σ : Sl) : D × AH → Rs := fun p => (ev C o σ p.2).bind (kSi2 C i σ p.1)
@[simp] theorem kSi_ap (o i σ d h) : kSi C o i σ (d, h) = (ev C o σ h).bind (kSi2 C i σ d) := rfl
@[simp] theorem kSi2_ap (i σ d x h) : kSi2 C i σ d (x, h) = (ev C i σ h).bind (kSi3 σ d x) := rfl
@[simp] theorem kSi3_ap (σ d x y h) : kSi3 σ d x (y, h) = (putID x y d h).bind (kSi4 σ) := rfl
@[simp] theorem kSi4_ap (σ h) : kSi4 σ h = some (.nx, σ, h) := rfl
theorem putID_ap {n k h ks} (e : h[n]? = some (.ids ks)) (hl : ks.length < lim) : putID (.ref n) (.int k) (.bl true) h = some (h.set n (.ids (putI ks k))) := by
  simp only [putID, e]; exact if_pos hl
@[simp] theorem ex_setI (o i e σ h) : ex C fuel (.setI o i e) σ h = (ev C e σ h).bind (kSi C o i σ) := rfl
def kExpr (σ : Sl) : D × AH → Rs := fun p => some (.nx, σ, p.2)
@[simp] theorem kExpr_ap (σ d h) : kExpr σ (d, h) = some (.nx, σ, h) := rfl
@[simp] theorem ex_expr (e σ h) : ex C fuel (.expr e) σ h = (ev C e σ h).bind (kExpr σ) := rfl
def kRet (σ : Sl) : D × AH → Rs := fun p => some (.rt p.1, σ, p.2)
@[simp] theorem kRet_ap (σ d h) : kRet σ (d, h) = some (.rt d, σ, h) := rfl
@[simp] theorem ex_ret (e σ h) : ex C fuel (.ret e) σ h = (ev C e σ h).bind (kRet σ) := rfl
@[simp] theorem ex_retN (σ h) : ex C fuel .retN σ h = some (.rt .non, σ, h) := rfl
def kIf (t e : Ss) (σ : Sl) : Bool × AH → Rs := fun p => if p.1 then exs C fuel t σ p.2 else exs C fuel e σ p.2
@[simp] theorem kIf_t (t e σ h) : kIf C fuel t e σ (true, h) = exs C fuel t σ h := rfl
@[simp] theorem kIf_f (t e σ h) : kIf C fuel t e σ (false, h) = exs C fuel e σ h := rfl
@[simp] theorem ex_ite (c t e σ h) : ex C fuel (.ite c t e) σ h = (tst C c σ h).bind (kIf C fuel t e σ) := rfl
theorem ex_whl (c b σ h) : ex C fuel (.whl c b) σ h = whileF (tst C c) (exs C fuel b) fuel σ h := rfl
def kFor (t : Tg) (b : Ss) (σ : Sl) : List D × Option Nat × AH → Rs := fun p => forL t p.2.1 p.1.length (exs C fuel b) p.1 0 σ p.2.2
theorem kFor_ap (t b σ xs n h) : kFor C fuel t b σ (xs, n, h) = forL t n xs.length (exs C fuel b) xs 0 σ h := rfl
@[simp] theorem ex_for (t it b σ h) : ex C fuel (.for_ t it b) σ h = (evI C it σ h).bind (kFor C fuel t b σ) := rfl
@[simp] theorem ex_brk (σ h) : ex C fuel .brk σ h = some (.bk, σ, h) := rfl
@[simp] theorem ex_cnt (σ h) : ex C fuel .cnt σ h = some (.ct, σ, h) := rfl
@[simp] theorem ex_pass (σ h) : ex C fuel .pass σ h = some (.nx, σ, h) := rfl
def kSeq (ss : Ss) : Fl × Sl × AH → Rs := fun p => match p.1 with
  | .nx => exs C fuel ss p.2.1 p.2.2
  | f => some (f, p.2.1, p.2.2)
@[simp] theorem exs_nil (σ h) : exs C fuel .nil σ h = some (.nx, σ, h) := rfl
@[simp] theorem exs_cons (s ss σ h) : exs C fuel (.cons s ss) σ h = (ex C fuel s σ h).bind (kSeq C fuel ss) := by
  simp only [exs]
  congr 1
@[simp] theorem kSeq_nx (ss σ h) : kSeq C fuel ss (.nx, σ, h) = exs C fuel ss σ h := rfl
@[simp] theorem kSeq_rt (ss d σ h) : kSeq C fuel ss (.rt d, σ, h) = some (.rt d, σ, h) := rfl
@[simp] theorem kSeq_bk (ss σ h) : kSeq C fuel ss (.bk, σ, h) = some (.bk, σ, h) := rfl
@[simp] theorem kSeq_ct (ss σ h) : kSeq C fuel ss (.ct, σ, h) = some (.ct, σ, h) := rfl
def kRun (m : Bool) (n : Nat) : Fl × Sl × AH → Rd2 := fun p => match p.1 with
    | .nx => fin m n .non p.2.2
    | .rt d => fin m n d p.2.2
    | _ => none
@[simp] theorem kRun_nx (m n σ h) : kRun m n (.nx, σ, h) = fin m n .non h := rfl
@[simp] theorem kRun_rt (m n d σ h) : kRun m n (.rt d, σ, h) = fin m n d h := rfl
theorem run_eq (m n b ds h) : run C m fuel n b ds h = (exs C fuel b (ds.map some ++ List.replicate (n - ds.length) none) h).bind (kRun m h.length) := rfl
end
theorem tab_step {L : List Df} {fuel k i : Nat} {d : Df} (h : L[i]? = some d) (ds : List D) (hp : AH) :
    tabF L fuel (k + 1) i ds hp = (exs (tabF L fuel k) fuel d.b (ds.map some ++ List.replicate (d.N.length - ds.length) none) hp).bind (kRun d.m hp.length) := by
  simp only [tabF, h]; rfl
/-! ### operations -/
section
variable {h : AH} {i j : Int} {xs ys : List D} {s t : String}
@[simp] theorem truth_bl (b) : truth (.bl b) h = some b := rfl
@[simp] theorem truth_non : truth .non h = some false := rfl
@[simp] theorem truth_int : truth (.int i) h = some (i != 0) := rfl
@[simp] theorem add_i : binop .add (.int i) (.int j) = some (.int (i + j)) := rfl
@[simp] theorem sub_i : binop .sub (.int i) (.int j) = some (.int (i - j)) := rfl
theorem mul_i (hj : (-(2 ^ 64) < i ∧ i < 2 ^ 64) ∨ (-(2 ^ 64) < j ∧ j < 2 ^ 64)) : binop .mul (.int i) (.int j) = some (.int (i * j)) := if_pos hj
theorem fdiv_i (h1 : 0 < j) (h2 : j < 1073741824) : binop .fdiv (.int i) (.int j) = some (.int (i / j)) := if_pos ⟨h1, h2⟩
theorem mod_i (h1 : 0 < j) : binop .mod (.int i) (.int j) = some (.int (i % j)) := if_pos h1
@[simp] theorem lt_i : cmpop .lt (.int i) (.int j) h = some (decide (i < j)) := rfl
@[simp] theorem le_i : cmpop .le (.int i) (.int j) h = some (decide (i ≤ j)) := rfl
@[simp] theorem gt_i : cmpop .gt (.int i) (.int j) h = some (decide (j < i)) := rfl
@[simp] theorem ge_i : cmpop .ge (.int i) (.int j) h = some (decide (j ≤ i)) := rfl
@[simp] theorem eq_i : cmpop .eq (.int i) (.int j) h = some (i == j) := rfl
@[simp] theorem eq_s : cmpop .eq (.str s) (.str t) h = some (s == t) := rfl
@[simp] theorem eq_b (a b) : cmpop .eq (.bl a) (.bl b) h = some (a == b) := rfl
@[simp] theorem ne_i : cmpop .ne (.int i) (.int j) h = some (!(i == j)) := rfl
@[simp] theorem ne_s : cmpop .ne (.str s) (.str t) h = some (!(s == t)) := rfl
@[simp] theorem is_non (d) : cmpop .is d .non h = some (match d with | .non => true | _ => false) := by cases d <;> rfl
@[simp] theorem isnot_non (d) : cmpop .isnot d .non h = some (match d with | .non => false | _ => true) := by cases d <;> rfl
@[simp] theorem is_bl (d b) : cmpop .is d (.bl b) h = some (match d with | .bl c => c == b | _ => false) := by cases d <;> rfl
theorem isin_tup {a} : cmpop .isin a (.tup xs) h = if flat a && xs.all flat then some (xs.any fun y => beqD y a) else none := rfl
theorem isin_strs {ks : List String} : cmpop .isin (.str s) (.tup (ks.map .str)) h = some (ks.any fun y => y == s) := by
  rw [isin_tup, if_pos]
  · congr 1
    induction ks with
    | nil => rfl
    | cons a l ih => simp only [List.map_cons, List.any_cons, ih]; rfl
  · simp only [flat, Bool.true_and]
    induction ks with
    | nil => rfl
    | cons a l ih => simp only [List.map_cons, List.all_cons, ih]; rfl
@[simp] theorem items_tup : items (.tup xs) h = some xs := rfl
@[simp] theorem items_lst : items (.lst xs) h = some xs := rfl
@[simp] theorem items_rol : items (.rol xs) h = some xs := rfl
theorem items_ref {n : Nat} (e : h[n]? = some (.lst xs)) : items (.ref n) h = some xs := by simp only [items, e]
@[simp] theorem litems_lst : litems (.lst xs) h = some xs := rfl
@[simp] theorem litems_rol : litems (.rol xs) h = some xs := rfl
theorem litems_ref {n : Nat} (e : h[n]? = some (.lst xs)) : litems (.ref n) h = some xs := by simp only [litems, e]
@[simp] theorem lit0 (xs r) : litems (.ref 0) (.lst xs :: r) = some xs := rfl
@[simp] theorem lit1 (x xs r) : litems (.ref 1) (x :: .lst xs :: r) = some xs := rfl
@[simp] theorem lit2 (x y xs r) : litems (.ref 2) (x :: y :: .lst xs :: r) = some xs := rfl
theorem index_at {d x : D} {n : Nat} (e : items d h = some xs) (hx : xs[n]? = some x) : index d (.int n) h = some x := by
  have hl := (List.getElem?_eq_some_iff.mp hx).1
  have : place xs.length (n : Int) = some n := by
    unfold place
    rw [if_pos (by omega), if_pos (by omega)]
    simp
  simp only [index, e, Option.bind_some, this, hx]
@[simp] theorem ix0 (x) : index (.tup (x :: xs)) (.int 0) h = some x := index_at (n := 0) rfl rfl
@[simp] theorem ix1 (x y) : index (.tup (x :: y :: xs)) (.int 1) h = some y := index_at (n := 1) rfl rfl
@[simp] theorem ix2 (x y z) : index (.tup (x :: y :: z :: xs)) (.int 2) h = some z := index_at (n := 2) rfl rfl
@[simp] theorem jx0 (x) : index (.lst (x :: xs)) (.int 0) h = some x := index_at (n := 0) rfl rfl
@[simp] theorem jx1 (x y) : index (.lst (x :: y :: xs)) (.int 1) h = some y := index_at (n := 1) rfl rfl
@[simp] theorem rx0 (x r) : index (.ref 0) (.int 0) (.lst (x :: xs) :: r) = some x := index_at (n := 0) (xs := x :: xs) rfl rfl
@[simp] theorem rx1 (x y r) : index (.ref 0) (.int 1) (.lst (x :: y :: xs) :: r) = some y := index_at (n := 1) (xs := x :: y :: xs) rfl rfl
@[simp] theorem sx0 (σ d x r) : kSx3 σ d (.ref 0) (.int 0, .lst (x :: xs) :: r) = some (.nx, σ, .lst (d :: xs) :: r) := kSx3_ap (ds := x :: xs) (j := 0) rfl (by simp [place])
@[simp] theorem sx1 (σ d x y r) : kSx3 σ d (.ref 0) (.int 1, .lst (x :: y :: xs) :: r) = some (.nx, σ, .lst (x :: d :: xs) :: r) := kSx3_ap (ds := x :: y :: xs) (j := 1) rfl (by simp [place]; omega)
@[simp] theorem len_tup : bltf .len [.tup xs] h = some (.int xs.length) := rfl
@[simp] theorem len_lst : bltf .len [.lst xs] h = some (.int xs.length) := rfl
@[simp] theorem len_rol : bltf .len [.rol xs] h = some (.int xs.length) := rfl
theorem len_ref {n : Nat} (e : h[n]? = some (.lst xs)) : bltf .len [.ref n] h = some (.int xs.length) := by simp only [bltf, items_ref e]; rfl
@[simp] theorem blt_abs : bltf .abs [.int i] h = some (.int (if i < 0 then -i else i)) := rfl
@[simp] theorem blt_int : bltf .int [.int i] h = some (.int i) := rfl
@[simp] theorem blt_min : bltf .min [.int i, .int j] h = some (.int (if j < i then j else i)) := rfl
@[simp] theorem blt_max : bltf .max [.int i, .int j] h = some (.int (if j > i then j else i)) := rfl
@[simp] theorem blt_tup_lst : bltf .tuple [.lst xs] h = some (.tup xs) := rfl
theorem rng_n {n : Nat} (hn : n ≤ 1000000) : rng 0 n = some ((List.range n).map fun i => .int (i : Nat)) := by
  unfold rng
  rw [if_pos ⟨by omega, by omega, by omega, by omega⟩]
  simp
@[simp] theorem isTy_t1 : isTy (.tup xs) .tuple = true := rfl
@[simp] theorem cut1 (x : D) : cut (x :: xs) (some 1) none = xs := by
  have : bnd (x :: xs).length 0 (some 1) = 1 := by
    simp [bnd]
  have h2 : bnd (x :: xs).length (x :: xs).length none = (x :: xs).length := rfl
  unfold cut
  rw [this, h2]
  simp
end
/-! ### calls -/
theorem callV {φ : Fun} {ds : List D} {d : D} {h : AH} (hc : closeds ds = true) (he : φ ds [] = some (d, [])) (hd : closed d = true) : callC φ ds h = some (d, h) := by
  cases ds with
  | nil => simp [callC, he, hd, hc]
  | cons x r => cases x <;> first | (simp [closeds, closed] at hc; done) | simp [callC, he, hd, hc]
theorem callM {φ : Fun} {ds es : List D} {h : AH} (hc : closeds ds = true) (he : φ ds [] = some (.ref 0, [.lst es])) (hd : closeds es = true) : callC φ ds h = some (.ref h.length, h ++ [.lst es]) := by
  cases ds with
  | nil => simp [callC, he, hd, hc]
  | cons x r => cases x <;> first | (simp [closeds, closed] at hc; done) | simp [callC, he, hd, hc]
theorem callO {φ : Fun} {ds es es' : List D} {d : D} {h : AH} {r : Nat} (hr : h[r]? = some (.lst es)) (hc : closeds ds = true) (hs : closeds es = true) (he : φ (.ref 0 :: ds) [.lst es] = some (d, [.lst es'])) (hd : closed d = true) (hd2 : closeds es' = true) :
    callC φ (.ref r :: ds) h = some (d, h.set r (.lst es')) := by
  simp [callC, he, hd, hc, hr, hs, hd2]
/-! ### refs -/
mutual
theorem mapR_c {g : Nat → Option D} : ∀ (d : D), closed d = true → mapR g d = some d
  | .non, _ => rfl
  | .bl _, _ => rfl
  | .int _, _ => rfl
  | .str _, _ => rfl
  | .tup ds, c => by simp only [mapR, mapRs_c ds c, Option.map_some]
  | .lst ds, c => by simp only [mapR, mapRs_c ds c, Option.map_some]
  | .rol ds, c => by simp only [mapR, mapRs_c ds c, Option.map_some]
  | .ref _, c => by simp [closed] at c
theorem mapRs_c {g : Nat → Option D} : ∀ (ds : List D), closeds ds = true → mapRs g ds = some ds
  | [], _ => rfl
  | d :: ds, c => by
    simp only [closeds, Bool.and_eq_true] at c
    simp only [mapRs, mapR_c d c.1, mapRs_c ds c.2, Option.bind_some, Option.map_some]
end
@[simp] theorem closed_i (i) : closed (.int i) = true := rfl
@[simp] theorem closed_b (i) : closed (.bl i) = true := rfl
@[simp] theorem closed_s (i) : closed (.str i) = true := rfl
@[simp] theorem closed_n : closed .non = true := rfl
@[simp] theorem closed_t (ds) : closed (.tup ds) = closeds ds := rfl
@[simp] theorem closed_l (ds) : closed (.lst ds) = closeds ds := rfl
@[simp] theorem closed_r (ds) : closed (.rol ds) = closeds ds := rfl
@[simp] theorem closeds_nil : closeds [] = true := rfl
@[simp] theorem closeds_cons (d ds) : closeds (d :: ds) = (closed d && closeds ds) := rfl
theorem closeds_map {α : Type} (f : α → D) (hf : ∀ a, closed (f a) = true) : ∀ l : List α, closeds (l.map f) = true
  | [] => rfl
  | a :: l => by simp [hf a, closeds_map f hf l]
theorem closeds_all {ds : List D} (h : ∀ d ∈ ds, closed d = true) : closeds ds = true := by
  induction ds with
  | nil => rfl
  | cons d ds ih => simp [h d (by simp), ih fun e he => h e (by simp [he])]
theorem closeds_mem : ∀ {ds : List D} {d : D}, closeds ds = true → d ∈ ds → closed d = true
  | e :: ds, d, h, m => by
    simp only [closeds_cons, Bool.and_eq_true] at h
    rcases List.mem_cons.mp m with z | z
    · subst z; exact h.1
    · exact closeds_mem h.2 z
theorem fin_0 {d : D} (hd : closed d = true) : fin false 0 d [] = some (d, []) := by
  simp [fin, mapR_c d hd]
/-- on no objects, whatever was made meanwhile -/
theorem fin_v {d : D} {h : AH} (hd : closed d = true) : fin false 0 d h = some (d, []) := by
  simp [fin, mapR_c d hd]
theorem fin_o {d : D} {es : List D} {h : AH} (hd : closed d = true) (he : closeds es = true) : fin false 1 d (.lst es :: h) = some (d, [.lst es]) := by
  simp [fin, mapR_c d hd, closedO, he]
theorem fin_m {es : List D} (he : closeds es = true) : fin true 0 (.ref 0) [.lst es] = some (.ref 0, [.lst es]) := by
  simp [fin, mapRs_c es he]
/-! ### loops -/
/-- while, by a measure -/
theorem while_ok {c : Sl → AH → Option (Bool × AH)} {b : Sl → AH → Option (Fl × Sl × AH)} (I : Nat → Sl → AH → Prop) (P : Fl → Sl → AH → Prop)
    (step : ∀ n σ h, I n σ h → (∃ h1, c σ h = some (false, h1) ∧ P .nx σ h1) ∨ (∃ h1 f σ2 h2, c σ h = some (true, h1) ∧ b σ h1 = some (f, σ2, h2) ∧ (match f with
      | .nx => ∃ n', n' < n ∧ I n' σ2 h2
      | .ct => ∃ n', n' < n ∧ I n' σ2 h2
      | .bk => P .nx σ2 h2
      | .rt d => P (.rt d) σ2 h2))) :
    ∀ (fuel n : Nat) (σ : Sl) (h : AH), n < fuel → I n σ h → ∃ f σ' h', whileF c b fuel σ h = some (f, σ', h') ∧ P f σ' h'
  | 0, n, _, _, hn, _ => by omega
  | fuel + 1, n, σ, h, hn, hi => by
    rcases step n σ h hi with ⟨h1, e, p⟩ | ⟨h1, f, σ2, h2, e, eb, p⟩
    · exact ⟨.nx, σ, h1, by simp [whileF, e], p⟩
    · cases f with
      | nx =>
        obtain ⟨n', hn', i2⟩ := p
        obtain ⟨f, σ', h', e', p⟩ := while_ok I P step fuel n' σ2 h2 (by omega) i2
        exact ⟨f, σ', h', by simp [whileF, e, eb, e'], p⟩
      | ct =>
        obtain ⟨n', hn', i2⟩ := p
        obtain ⟨f, σ', h', e', p⟩ := while_ok I P step fuel n' σ2 h2 (by omega) i2
        exact ⟨f, σ', h', by simp [whileF, e, eb, e'], p⟩
      | bk => exact ⟨.nx, σ2, h2, by simp [whileF, e, eb], p⟩
      | rt d => exact ⟨.rt d, σ2, h2, by simp [whileF, e, eb], p⟩
/-- a walk over values -/
theorem for_ok {tg : Tg} {len : Nat} {b : Sl → AH → Option (Fl × Sl × AH)} (I : List D → Nat → Sl → AH → Prop) (P : Fl → Sl → AH → Prop)
    (done : ∀ i σ h, I [] i σ h → P .nx σ h)
    (step : ∀ x xs i σ h, I (x :: xs) i σ h → ∃ σ1, put tg x σ = some σ1 ∧ ∃ f σ2 h2, b σ1 h = some (f, σ2, h2) ∧ (match f with
      | .nx => I xs (i + 1) σ2 h2
      | .ct => I xs (i + 1) σ2 h2
      | .bk => P .nx σ2 h2
      | .rt d => P (.rt d) σ2 h2)) :
    ∀ (xs : List D) (i : Nat) (σ : Sl) (h : AH), I xs i σ h → ∃ f σ' h', forL tg none len b xs i σ h = some (f, σ', h') ∧ P f σ' h'
  | [], i, σ, h, hi => ⟨.nx, σ, h, by simp [forL, okL], done i σ h hi⟩
  | x :: xs, i, σ, h, hi => by
    obtain ⟨σ1, e1, f, σ2, h2, e2, p⟩ := step x xs i σ h hi
    cases f with
    | nx =>
      obtain ⟨f, σ', h', e', p⟩ := for_ok (len := len) I P done step xs (i + 1) σ2 h2 p
      exact ⟨f, σ', h', by simp [forL, okL, cur, e1, e2, e'], p⟩
    | ct =>
      obtain ⟨f, σ', h', e', p⟩ := for_ok (len := len) I P done step xs (i + 1) σ2 h2 p
      exact ⟨f, σ', h', by simp [forL, okL, cur, e1, e2, e'], p⟩
    | bk => exact ⟨.nx, σ2, h2, by simp [forL, okL, cur, e1, e2], p⟩
    | rt d => exact ⟨.rt d, σ2, h2, by simp [forL, okL, cur, e1, e2], p⟩
@[simp] theorem wipe_nil (σ) : wipe σ [] = σ := rfl
@[simp] theorem wipe_cons (σ v vs) : wipe σ (v :: vs) = (wipe σ vs).set v none := rfl
section
variable (σ : Sl) (tg : Tg) (len : Nat) (c : Sl → AH → Option (Bool × AH)) (e : Sl → AH → Option (D × AH))
def kC4 (d : D) : List D × AH → Option (List D × AH) := fun p => some (d :: p.1, p.2)
def kC3 (xs : List D) (i : Nat) : D × AH → Option (List D × AH) := fun p => (compL σ tg none len c e xs (i + 1) p.2).bind (kC4 p.1)
def kC2 (xs : List D) (i : Nat) (σ1 : Sl) : Bool × AH → Option (List D × AH) := fun p => if p.1 then (e σ1 p.2).bind (kC3 σ tg len c e xs i) else compL σ tg none len c e xs (i + 1) p.2
def kC1 (xs : List D) (i : Nat) (h : AH) (σ1 : Sl) : Option (List D × AH) := (c σ1 h).bind (kC2 σ tg len c e xs i σ1)
@[simp] theorem compL_nil (i h) : compL σ tg none len c e [] i h = some ([], h) := by simp [compL, okL]
@[simp] theorem compL_cons (x xs i h) : compL σ tg none len c e (x :: xs) i h = (put tg x σ).bind (kC1 σ tg len c e xs i h) := by
  simp only [compL, okL, cur, if_true, Option.bind_some]
  rfl
@[simp] theorem kC1_ap (xs i h σ1) : kC1 σ tg len c e xs i h σ1 = (c σ1 h).bind (kC2 σ tg len c e xs i σ1) := rfl
@[simp] theorem kC2_t (xs i σ1 h) : kC2 σ tg len c e xs i σ1 (true, h) = (e σ1 h).bind (kC3 σ tg len c e xs i) := rfl
@[simp] theorem kC2_f (xs i σ1 h) : kC2 σ tg len c e xs i σ1 (false, h) = compL σ tg none len c e xs (i + 1) h := rfl
@[simp] theorem kC3_ap (xs i d h) : kC3 σ tg len c e xs i (d, h) = (compL σ tg none len c e xs (i + 1) h).bind (kC4 d) := rfl
@[simp] theorem kC4_ap (d ds h) : kC4 d (ds, h) = some (d :: ds, h) := rfl
end
theorem place_nat {n m : Nat} (h : m < n) : place n (m : Int) = some m := by
  unfold place
  rw [if_pos (by omega), if_pos (by omega)]
  simp
@[simp] theorem put_v (i d σ) : put (.v i) d σ = some (σ.set i (some d)) := rfl
@[simp] theorem put_t (ts ds σ) : put (.t ts) (.tup ds) σ = puts ts ds σ := rfl
@[simp] theorem puts_nil (σ) : puts .nil [] σ = some σ := rfl
def kPuts (ts : Tgs) (ds : List D) (σ : Sl) : Option Sl := puts ts ds σ
@[simp] theorem puts_cons (t ts d ds σ) : puts (.cons t ts) (d :: ds) σ = (put t d σ).bind (kPuts ts ds) := rfl
@[simp] theorem kPuts_ap (ts ds σ) : kPuts ts ds σ = puts ts ds σ := rfl
end PyD

/-! PyDC: more of the same: places, parts, loops by place, comprehensions. -/
namespace PyD
variable {h : AH} {xs : List D}
@[simp] theorem ix3 (a b c d) : index (.tup (a :: b :: c :: d :: xs)) (.int 3) h = some d := index_at (n := 3) rfl rfl
@[simp] theorem ix4 (a b c d e) : index (.tup (a :: b :: c :: d :: e :: xs)) (.int 4) h = some e := index_at (n := 4) rfl rfl
@[simp] theorem ix5 (a b c d e f) : index (.tup (a :: b :: c :: d :: e :: f :: xs)) (.int 5) h = some f := index_at (n := 5) rfl rfl
@[simp] theorem ix6 (a b c d e f g) : index (.tup (a :: b :: c :: d :: e :: f :: g :: xs)) (.int 6) h = some g := index_at (n := 6) rfl rfl
@[simp] theorem ix7 (a b c d e f g i) : index (.tup (a :: b :: c :: d :: e :: f :: g :: i :: xs)) (.int 7) h = some i := index_at (n := 7) rfl rfl
@[simp] theorem ix8 (a b c d e f g i j) : index (.tup (a :: b :: c :: d :: e :: f :: g :: i :: j :: xs)) (.int 8) h = some j := index_at (n := 8) rfl rfl
@[simp] theorem ixm1 (a) : index (.tup [a]) (.int (-1)) h = some a := by
  simp [index, place]
@[simp] theorem tup_r0 (xs r) : bltf .tuple [.ref 0] (.lst xs :: r) = some (.tup xs) := rfl
@[simp] theorem tup_r1 (x xs r) : bltf .tuple [.ref 1] (x :: .lst xs :: r) = some (.tup xs) := rfl
@[simp] theorem tup_tup (xs) : bltf .tuple [.tup xs] h = some (.tup xs) := rfl
@[simp] theorem len_r0 (xs r) : bltf .len [.ref 0] (.lst xs :: r) = some (.int (xs.length : Nat)) := rfl
@[simp] theorem len_r1 (x xs r) : bltf .len [.ref 1] (x :: .lst xs :: r) = some (.int (xs.length : Nat)) := rfl
@[simp] theorem len_r2 (x y xs r) : bltf .len [.ref 2] (x :: y :: .lst xs :: r) = some (.int (xs.length : Nat)) := rfl
theorem add_t {xs ys : List D} (hl : xs.length + ys.length ≤ lim) : binop .add (.tup xs) (.tup ys) = some (.tup (xs ++ ys)) := if_pos hl
theorem mul_t {x : D} {n : Nat} (hn : n ≤ 1000) : binop .mul (.tup [x]) (.int n) = some (.tup (List.replicate n x)) := by
  show (if -1000 ≤ (n : Int) ∧ (n : Int) ≤ 1000 ∧ [x].length ≤ 1000 then some (D.tup (List.replicate (n : Int).toNat [x]).flatten) else none) = _
  rw [if_pos ⟨by omega, by omega, by simp⟩]
  simp
theorem cut_to {n : Nat} (hn : n ≤ xs.length) : cut xs none (some (n : Int)) = xs.take n := by
  have h1 : bnd xs.length xs.length (some (n : Int)) = n := by
    show (if (n : Int) < 0 then ((n : Int) + xs.length).toNat else min (n : Int).toNat xs.length) = n
    rw [if_neg (by omega)]
    simp [Nat.min_eq_left hn]
  have h2 : bnd xs.length 0 none = 0 := rfl
  unfold cut
  rw [h1, h2]; simp
theorem cut_from {n : Nat} (hn : n ≤ xs.length) : cut xs (some (n : Int)) none = xs.drop n := by
  have h1 : bnd xs.length 0 (some (n : Int)) = n := by
    show (if (n : Int) < 0 then ((n : Int) + xs.length).toNat else min (n : Int).toNat xs.length) = n
    rw [if_neg (by omega)]
    simp [Nat.min_eq_left hn]
  have h2 : bnd xs.length xs.length none = xs.length := rfl
  unfold cut
  rw [h1, h2, List.take_of_length_le]
  simp
@[simp] theorem cut_m1 (a : D) : cut [a] none (some (-1)) = [] := by
  simp [cut, bnd]
/-- l.append(x) on the n-th list -/
theorem app_r0 {ds r y} (hl : ds.length < lim) : kApp2 (.ref 0) (y, .lst ds :: r) = some (.non, .lst (ds ++ [y]) :: r) := by
  rw [kApp2_ap (ds := ds) rfl hl]; rfl
theorem app_r1 {x ds r y} (hl : ds.length < lim) : kApp2 (.ref 1) (y, x :: .lst ds :: r) = some (.non, x :: .lst (ds ++ [y]) :: r) := by
  rw [kApp2_ap (ds := ds) rfl hl]; rfl
theorem app_r2 {x z ds r y} (hl : ds.length < lim) : kApp2 (.ref 2) (y, x :: z :: .lst ds :: r) = some (.non, x :: z :: .lst (ds ++ [y]) :: r) := by
  rw [kApp2_ap (ds := ds) rfl hl]; rfl
/-- a walk over values, by place -/
theorem for_ix {tg : Tg} {len : Nat} {b : Sl → AH → Option (Fl × Sl × AH)} (L : List D) (I : Nat → Sl → AH → Prop) (P : Fl → Sl → AH → Prop)
    (done : ∀ σ h, I L.length σ h → P .nx σ h)
    (step : ∀ m x σ h, L[m]? = some x → I m σ h → ∃ σ1, put tg x σ = some σ1 ∧ ∃ f σ2 h2, b σ1 h = some (f, σ2, h2) ∧ (match f with
      | .nx => I (m + 1) σ2 h2
      | .ct => I (m + 1) σ2 h2
      | .bk => P .nx σ2 h2
      | .rt d => P (.rt d) σ2 h2)) (σ : Sl) (h : AH) (hi : I 0 σ h) : ∃ f σ' h', forL tg none len b L 0 σ h = some (f, σ', h') ∧ P f σ' h' :=
  for_ok (fun xs i σ h => ∃ m, xs = L.drop m ∧ m ≤ L.length ∧ I m σ h) P
    (fun i σ h ⟨m, e, hm, q⟩ => done σ h (by
      have := congrArg List.length e
      simp at this
      have : m = L.length := by omega
      rw [← this]; exact q))
    (fun x xs i σ h ⟨m, e, hm, q⟩ => by
      have hl : m < L.length := by
        have := congrArg List.length e
        simp at this; omega
      rw [List.drop_eq_getElem_cons hl, List.cons.injEq] at e
      obtain ⟨σ1, e1, f, σ2, h2, e2, p⟩ := step m x σ h (by rw [List.getElem?_eq_getElem hl, e.1]) q
      refine ⟨σ1, e1, f, σ2, h2, e2, ?_⟩
      cases f with
      | nx => exact ⟨m + 1, e.2, hl, p⟩
      | ct => exact ⟨m + 1, e.2, hl, p⟩
      | bk => exact p
      | rt d => exact p)
    L 0 σ h ⟨0, rfl, Nat.zero_le _, hi⟩
/-- a walk over values, each alike -/
theorem for_all {tg : Tg} {len : Nat} {b : Sl → AH → Option (Fl × Sl × AH)} (L : List D) (I : Sl → AH → Prop) (P : Fl → Sl → AH → Prop)
    (done : ∀ σ h, I σ h → P .nx σ h)
    (step : ∀ x ∈ L, ∀ σ h, I σ h → ∃ σ1, put tg x σ = some σ1 ∧ ∃ f σ2 h2, b σ1 h = some (f, σ2, h2) ∧ (match f with
      | .nx => I σ2 h2
      | .ct => I σ2 h2
      | .bk => P .nx σ2 h2
      | .rt d => P (.rt d) σ2 h2)) (σ : Sl) (h : AH) (hi : I σ h) : ∃ f σ' h', forL tg none len b L 0 σ h = some (f, σ', h') ∧ P f σ' h' :=
  for_ix L (fun _ => I) P done (fun m x σ h e q => step x (List.mem_of_getElem? e) σ h q) σ h hi
/-- a comprehension, each item told -/
theorem compL_map {σ : Sl} {tg : Tg} {len : Nat} {c : Sl → AH → Option (Bool × AH)} {e : Sl → AH → Option (D × AH)} {h : AH} (p : D → Bool) (f : D → D) : ∀ (L : List D) (i : Nat),
    (∀ x ∈ L, ∃ σ1, put tg x σ = some σ1 ∧ c σ1 h = some (p x, h) ∧ (p x = true → e σ1 h = some (f x, h))) → compL σ tg none len c e L i h = some ((L.filter p).map f, h)
  | [], i, _ => by simp
  | x :: L, i, q => by
    obtain ⟨σ1, e1, e2, e3⟩ := q x (by simp)
    have ih := compL_map (len := len) p f L (i + 1) fun y hy => q y (by simp [hy])
    cases hp : p x with
    | true => simp [e1, e2, hp, e3 hp, ih]
    | false => simp [e1, e2, hp, ih]
/-- a comprehension, its items drawn one by one -/
theorem compL_ok {σ : Sl} {tg : Tg} {len : Nat} {c : Sl → AH → Option (Bool × AH)} {e : Sl → AH → Option (D × AH)} (I : AH → Prop) (Q : D → Prop) : ∀ (L : List D) (i : Nat) (h : AH),
    (∀ x ∈ L, ∀ h, I h → ∃ σ1, put tg x σ = some σ1 ∧ c σ1 h = some (true, h) ∧ ∃ d h2, e σ1 h = some (d, h2) ∧ I h2 ∧ Q d) → I h →
    ∃ ds h', compL σ tg none len c e L i h = some (ds, h') ∧ I h' ∧ ds.length = L.length ∧ ∀ d ∈ ds, Q d
  | [], i, h, _, hi => ⟨[], h, by simp, hi, rfl, fun d hd => by cases hd⟩
  | x :: L, i, h, q, hi => by
    obtain ⟨σ1, e1, e2, d, h2, e3, i2, qd⟩ := q x (by simp) h hi
    obtain ⟨ds, h', e4, i4, l4, q4⟩ := compL_ok (len := len) I Q L (i + 1) h2 (fun y hy => q y (by simp [hy])) i2
    refine ⟨d :: ds, h', by simp [e1, e2, e3, e4], i4, by simp [l4], fun y hy => ?_⟩
    rcases List.mem_cons.mp hy with rfl | hy
    · exact qd
    · exact q4 y hy
/-- items of a kind -/
theorem list_of {α : Type} (f : α → D) (P : α → Prop) : ∀ {ds : List D}, (∀ d ∈ ds, ∃ a, d = f a ∧ P a) → ∃ l : List α, ds = l.map f ∧ ∀ a ∈ l, P a
  | [], _ => ⟨[], rfl, fun a h => by cases h⟩
  | d :: ds, q => by
    obtain ⟨a, rfl, pa⟩ := q d (by simp)
    obtain ⟨l, rfl, pl⟩ := list_of f P (ds := ds) fun y hy => q y (by simp [hy])
    exact ⟨a :: l, rfl, fun b hb => by
      rcases List.mem_cons.mp hb with rfl | hb
      · exact pa
      · exact pl b hb⟩
end PyD

namespace PyD.K16
open PyD
abbrev g_MIXED : D := (.tup [(.str "plus"), (.str "minus"), (.str "times"), (.str "least"), (.str "most")])
abbrev g_JOINED : D := (.tup [(.str "not"), (.str "and"), (.str "or")])
abbrev g_NOBODY : D := (.int (-1))
abbrev g_MOST_OUTCOME : D := (.int 5)
def b_is_int : Ss :=
 (.cons (.ret (.bop true (.cons (.isi (.var 0) .int) (.cons (.not (.isi (.var 0) .bool)) .nil))))
 .nil)
def d_is_int : Df := ⟨"is_int", 1, ["value"], false, b_is_int, [], []⟩
def b_is_number : Ss :=
 (.cons (.ret (.bop true (.cons (.call 0 (.cons (.var 0) .nil)) (.cons (.cmp .ge (.var 0) (.var 1)) (.cons (.bop false (.cons (.cmp .is (.var 2) .non) (.cons (.cmp .le (.var 0) (.var 2)) .nil))) .nil)))))
 .nil)
def d_is_number : Df := ⟨"is_number", 3, ["value", "least", "most"], false, b_is_number, [], [(1, [(.int 0), .non])]⟩
def b_is_tuple : Ss :=
 (.cons (.ret (.bop true (.cons (.isi (.var 0) .tuple) (.cons (.bop false (.cons (.cmp .is (.var 1) .non) (.cons (.cmp .eq (.blt .len (.cons (.var 0) .nil)) (.var 1)) .nil))) .nil))))
 .nil)
def d_is_tuple : Df := ⟨"is_tuple", 2, ["value", "many"], false, b_is_tuple, [], [(1, [.non])]⟩
def b_laid_out : Ss :=
 (.cons (.par3 2 3 4 (.fm (.disp (.cons (.var 0) .nil))) (.fm (.disp .nil)) (.int 0))
 (.cons (.whl (.cmp .lt (.var 4) (.blt .len (.cons (.var 2) .nil)))
 (.cons (.set 5 (.fm (.disp .nil)))
 (.cons (.ite (.cmp .isin (.idx (.idx (.var 2) (.var 4)) (.int 0)) (.var 1))
 (.cons (.for_ (.v 6) (.seq (.slc (.idx (.var 2) (.var 4)) (.so (.int 1)) .no))
 (.cons (.expr (.app (.var 5) (.blt .len (.cons (.var 2) .nil))))
 (.cons (.expr (.app (.var 2) (.var 6)))
 .nil)))
 .nil)
 .nil)
 (.cons (.expr (.app (.var 3) (.var 5)))
 (.cons (.aug 4 .add (.int 1))
 .nil)))))
 (.cons (.ret (.tup (.cons (.var 2) (.cons (.var 3) .nil))))
 .nil)))
def d_laid_out : Df := ⟨"laid_out", 2, ["tree", "kinds", "nodes", "parts", "spot", "row", "part"], false, b_laid_out, [], []⟩
def b_leaf_worth : Ss :=
 (.cons (.ite (.cmp .eq (.idx (.var 0) (.int 0)) (.str "number"))
 (.cons (.ret (.idx (.var 0) (.int 1)))
 .nil)
 .nil)
 (.cons (.ite (.cmp .eq (.idx (.var 0) (.int 0)) (.str "day"))
 (.cons (.ret (.idx (.var 1) (.int 0)))
 .nil)
 .nil)
 (.cons (.ret (.ite (.cmp .eq (.idx (.var 0) (.int 0)) (.str "count")) (.idx (.idx (.var 1) (.int 1)) (.idx (.var 0) (.int 1))) (.idx (.idx (.var 1) (.int 2)) (.idx (.var 0) (.int 1)))))
 .nil)))
def d_leaf_worth : Df := ⟨"leaf_worth", 2, ["leaf", "sight"], false, b_leaf_worth, [], []⟩
def b_mixed_worth : Ss :=
 (.cons (.ite (.bop false (.cons (.cmp .is (.var 1) .non) (.cons (.cmp .is (.var 2) .non) .nil)))
 (.cons (.ret .non)
 .nil)
 .nil)
 (.cons (.ite (.cmp .eq (.var 0) (.str "plus"))
 (.cons (.ret (.bin .add (.var 1) (.var 2)))
 .nil)
 .nil)
 (.cons (.ite (.cmp .eq (.var 0) (.str "minus"))
 (.cons (.ret (.bin .sub (.var 1) (.var 2)))
 .nil)
 .nil)
 (.cons (.ite (.cmp .eq (.var 0) (.str "times"))
 (.cons (.ret (.bin .mul (.var 1) (.var 2)))
 .nil)
 .nil)
 (.cons (.ret (.ite (.cmp .eq (.var 0) (.str "least")) (.blt .min (.cons (.var 1) (.cons (.var 2) .nil))) (.blt .max (.cons (.var 1) (.cons (.var 2) .nil)))))
 .nil)))))
def d_mixed_worth : Df := ⟨"mixed_worth", 3, ["kind", "one", "two"], false, b_mixed_worth, [], []⟩
def b_worth_of : Ss :=
 (.cons (.asg (.t (.cons (.v 2) (.cons (.v 3) .nil))) (.call 3 (.cons (.var 0) (.cons (.glob "MIXED" g_MIXED) .nil))))
 (.cons (.set 4 (.fm (.rep (.fv (.disp (.cons .non .nil))) (.blt .len (.cons (.var 2) .nil)))))
 (.cons (.for_ (.v 5) (.seq (.fv (.rev (.fv (.rng1 (.blt .len (.cons (.var 2) .nil)))))))
 (.cons (.ite (.cmp .isin (.idx (.idx (.var 2) (.var 5)) (.int 0)) (.glob "MIXED" g_MIXED))
 (.cons (.setIx (.var 4) (.var 5) (.call 5 (.cons (.idx (.idx (.var 2) (.var 5)) (.int 0)) (.cons (.idx (.var 4) (.idx (.idx (.var 3) (.var 5)) (.int 0))) (.cons (.idx (.var 4) (.idx (.idx (.var 3) (.var 5)) (.int 1))) .nil)))))
 .nil)
 (.cons (.setIx (.var 4) (.var 5) (.call 4 (.cons (.idx (.var 2) (.var 5)) (.cons (.var 1) .nil))))
 .nil))
 .nil))
 (.cons (.ret (.idx (.var 4) (.int 0)))
 .nil))))
def d_worth_of : Df := ⟨"worth_of", 2, ["tree", "sight", "nodes", "parts", "told", "spot"], false, b_worth_of, [], []⟩
def b_compares : Ss :=
 (.cons (.ite (.cmp .eq (.idx (.var 0) (.int 0)) (.str "yes"))
 (.cons (.ret (.bl true))
 .nil)
 .nil)
 (.cons (.par2 2 3 (.call 6 (.cons (.idx (.var 0) (.int 1)) (.cons (.var 1) .nil))) (.call 6 (.cons (.idx (.var 0) (.int 2)) (.cons (.var 1) .nil))))
 (.cons (.ite (.bop false (.cons (.cmp .is (.var 2) .non) (.cons (.cmp .is (.var 3) .non) .nil)))
 (.cons (.ret (.bl false))
 .nil)
 .nil)
 (.cons (.ret (.ite (.cmp .eq (.idx (.var 0) (.int 0)) (.str "less")) (.cmp .lt (.var 2) (.var 3)) (.cmp .eq (.var 2) (.var 3))))
 .nil))))
def d_compares : Df := ⟨"compares", 2, ["leaf", "sight", "one", "two"], false, b_compares, [], []⟩
def b_holds : Ss :=
 (.cons (.asg (.t (.cons (.v 2) (.cons (.v 3) .nil))) (.call 3 (.cons (.var 0) (.cons (.glob "JOINED" g_JOINED) .nil))))
 (.cons (.set 4 (.fm (.rep (.fv (.disp (.cons (.bl false) .nil))) (.blt .len (.cons (.var 2) .nil)))))
 (.cons (.for_ (.v 5) (.seq (.fv (.rev (.fv (.rng1 (.blt .len (.cons (.var 2) .nil)))))))
 (.cons (.par2 6 7 (.idx (.idx (.var 2) (.var 5)) (.int 0)) (.comp (.idx (.var 4) (.var 8)) (.v 8) (.seq (.idx (.var 3) (.var 5))) .no [8]))
 (.cons (.ite (.cmp .eq (.var 6) (.str "not"))
 (.cons (.setIx (.var 4) (.var 5) (.not (.idx (.var 7) (.int 0))))
 .nil)
 (.cons (.ite (.cmp .eq (.var 6) (.str "and"))
 (.cons (.setIx (.var 4) (.var 5) (.bop true (.cons (.idx (.var 7) (.int 0)) (.cons (.idx (.var 7) (.int 1)) .nil))))
 .nil)
 (.cons (.ite (.cmp .eq (.var 6) (.str "or"))
 (.cons (.setIx (.var 4) (.var 5) (.bop false (.cons (.idx (.var 7) (.int 0)) (.cons (.idx (.var 7) (.int 1)) .nil))))
 .nil)
 (.cons (.setIx (.var 4) (.var 5) (.call 7 (.cons (.idx (.var 2) (.var 5)) (.cons (.var 1) .nil))))
 .nil))
 .nil))
 .nil))
 .nil)))
 (.cons (.ret (.idx (.var 4) (.int 0)))
 .nil))))
def d_holds : Df := ⟨"holds", 2, ["condition", "sight", "nodes", "parts", "told", "spot", "kind", "some", "part"], false, b_holds, [], []⟩
def b_begin_place : Ss :=
 (.cons (.set 1 (.blt .tuple (.cons (.comp (.var 5) (.t (.cons (.v 3) (.cons (.v 4) (.cons (.v 5) .nil)))) (.seq (.idx (.var 0) (.int 3))) .no [3, 4, 5]) .nil)))
 (.cons (.set 2 (.bin .mul (.tup (.cons (.int 0) .nil)) (.bin .add (.blt .len (.cons (.idx (.var 0) (.int 5)) .nil)) (.blt .len (.cons (.idx (.var 0) (.int 6)) .nil)))))
 (.cons (.ret (.tup (.cons (.int 0) (.cons (.var 1) (.cons (.bin .mul (.tup (.cons .non .nil)) (.blt .len (.cons (.idx (.var 0) (.int 4)) .nil))) (.cons (.var 2) (.cons (.bin .mul (.tup (.cons (.bl false) .nil)) (.blt .len (.cons (.idx (.var 0) (.int 1)) .nil))) .nil)))))))
 .nil)))
def d_begin_place : Df := ⟨"begin_place", 1, ["deal", "counters", "done", "name", "top", "first"], false, b_begin_place, [], []⟩
def b_is_over : Ss :=
 (.cons (.ret (.cmp .eq (.idx (.var 1) (.int 0)) (.idx (.var 0) (.int 2))))
 .nil)
def d_is_over : Df := ⟨"is_over", 2, ["deal", "place"], false, b_is_over, [], []⟩
def b_seen_seels : Ss :=
 (.cons (.set 3 (.fm (.disp .nil)))
 (.cons (.for_ (.t (.cons (.t (.cons (.v 4) (.cons (.v 5) (.cons (.v 6) .nil)))) (.cons (.v 7) .nil))) (.zip (.idx (.var 0) (.int 4)) (.var 1))
 (.cons (.set 8 (.bop true (.cons (.cmp .isnot (.var 7) .non) (.cons (.bop false (.cons (.cmp .eq (.idx (.var 7) (.int 0)) (.str "open")) (.cons (.cmp .eq (.var 5) (.var 2)) .nil))) .nil))))
 (.cons (.expr (.app (.var 3) (.ite (.var 8) (.idx (.var 7) (.int 1)) .non)))
 .nil)))
 (.cons (.ret (.blt .tuple (.cons (.var 3) .nil)))
 .nil)))
def d_seen_seels : Df := ⟨"seen_se\x61ls", 3, ["deal", "se\x61ls", "role", "found", "name", "owner", "top", "told", "is_seen"], false, b_seen_seels, [], []⟩
def b_sight_of : Ss :=
 (.cons (.ret (.tup (.cons (.idx (.var 1) (.int 0)) (.cons (.idx (.var 1) (.int 1)) (.cons (.call 11 (.cons (.var 0) (.cons (.idx (.var 1) (.int 2)) (.cons (.var 2) .nil)))) .nil)))))
 .nil)
def d_sight_of : Df := ⟨"sight_of", 3, ["deal", "place", "role"], false, b_sight_of, [], []⟩
def b_outcome_of : Ss :=
 (.cons (.set 2 (.call 6 (.cons (.idx (.var 0) (.int 7)) (.cons (.call 12 (.cons (.var 0) (.cons (.var 1) (.cons (.glob "NOBODY" g_NOBODY) .nil)))) .nil))))
 (.cons (.ret (.ite (.cmp .is (.var 2) .non) (.int 0) (.blt .max (.cons (.int 0) (.cons (.blt .min (.cons (.var 2) (.cons (.glob "MOST_OUTCOME" g_MOST_OUTCOME) .nil))) .nil)))))
 .nil))
def d_outcome_of : Df := ⟨"outcome_of", 2, ["deal", "place", "told"], false, b_outcome_of, [], []⟩
def b_stepped : Ss :=
 (.cons (.set 4 (.fm (.ofSeq (.var 1))))
 (.cons (.for_ (.t (.cons (.v 5) (.cons (.v 6) .nil))) (.seq (.var 2))
 (.cons (.set 7 (.call 6 (.cons (.var 6) (.cons (.var 3) .nil))))
 (.cons (.ite (.bop false (.cons (.cmp .is (.var 7) .non) (.cons (.not (.chain .le .le (.int 0) (.var 7) (.idx (.idx (.idx (.var 0) (.int 3)) (.var 5)) (.int 1)))) .nil)))
 (.cons (.ret .non)
 .nil)
 .nil)
 (.cons (.setIx (.var 4) (.var 5) (.var 7))
 .nil))))
 (.cons (.ret (.blt .tuple (.cons (.var 4) .nil)))
 .nil)))
def d_stepped : Df := ⟨"stepped", 4, ["deal", "counters", "steps", "sight", "row", "counter", "tree", "told"], false, b_stepped, [], []⟩
def b_seels_behind : Ss :=
 (.cons (.ite (.cmp .eq (.idx (.var 2) (.int 0)) (.str "plain"))
 (.cons (.ret (.ite (.cmp .is (.var 3) .non) (.var 1) .non))
 .nil)
 .nil)
 (.cons (.set 4 (.idx (.var 2) (.int 1)))
 (.cons (.ite (.cmp .eq (.idx (.var 2) (.int 0)) (.str "chooses"))
 (.cons (.ite (.bop false (.cons (.cmp .isnot (.idx (.var 1) (.var 4)) .non) (.cons (.not (.call 1 (.cons (.var 3) (.cons (.int 0) (.cons (.idx (.idx (.idx (.var 0) (.int 4)) (.var 4)) (.int 2)) .nil))))) .nil)))
 (.cons (.ret .non)
 .nil)
 .nil)
 (.cons (.ret (.bin .add (.bin .add (.slc (.var 1) .no (.so (.var 4))) (.tup (.cons (.tup (.cons (.str "shut") (.cons (.var 3) .nil))) .nil))) (.slc (.var 1) (.so (.bin .add (.var 4) (.int 1))) .no)))
 .nil))
 .nil)
 (.cons (.ite (.bop false (.cons (.not (.callD 1 (.cons (.var 3) .nil) [(.int 0), .non])) (.cons (.cmp .ne (.idx (.var 1) (.var 4)) (.tup (.cons (.str "shut") (.cons (.var 3) .nil)))) .nil)))
 (.cons (.ret .non)
 .nil)
 .nil)
 (.cons (.ret (.bin .add (.bin .add (.slc (.var 1) .no (.so (.var 4))) (.tup (.cons (.tup (.cons (.str "open") (.cons (.var 3) .nil))) .nil))) (.slc (.var 1) (.so (.bin .add (.var 4) (.int 1))) .no)))
 .nil)))))
def d_seels_behind : Df := ⟨"se\x61ls_behind", 4, ["deal", "se\x61ls", "kind", "worth", "se\x61l"], false, b_seels_behind, [], []⟩
def b_done_once : Ss :=
 (.cons (.ret (.bin .add (.bin .add (.slc (.var 0) .no (.so (.var 1))) (.tup (.cons (.bin .add (.idx (.var 0) (.var 1)) (.int 1)) .nil))) (.slc (.var 0) (.so (.bin .add (.var 1) (.int 1))) .no)))
 .nil)
def d_done_once : Df := ⟨"done_once", 2, ["done", "spot"], false, b_done_once, [], []⟩
def b_deed_behind : Ss :=
 (.cons (.asg (.t (.cons (.v 4) (.cons (.v 5) (.cons (.v 6) (.cons (.v 7) (.cons (.v 8) (.cons (.v 9) .nil))))))) (.idx (.idx (.var 0) (.int 5)) (.var 2)))
 (.cons (.set 10 (.call 12 (.cons (.var 0) (.cons (.var 1) (.cons (.var 5) .nil)))))
 (.cons (.ite (.bop false (.cons (.call 10 (.cons (.var 0) (.cons (.var 1) .nil))) (.cons (.cmp .ge (.idx (.idx (.var 1) (.int 3)) (.var 2)) (.var 9)) (.cons (.not (.call 8 (.cons (.var 7) (.cons (.var 10) .nil)))) .nil))))
 (.cons (.ret .non)
 .nil)
 .nil)
 (.cons (.set 11 (.call 15 (.cons (.var 0) (.cons (.idx (.var 1) (.int 2)) (.cons (.var 6) (.cons (.var 3) .nil))))))
 (.cons (.set 12 (.call 14 (.cons (.var 0) (.cons (.idx (.var 1) (.int 1)) (.cons (.var 8) (.cons (.var 10) .nil))))))
 (.cons (.ite (.bop false (.cons (.cmp .is (.var 11) .non) (.cons (.cmp .is (.var 12) .non) .nil)))
 (.cons (.ret .non)
 .nil)
 .nil)
 (.cons (.ret (.tup (.cons (.idx (.var 1) (.int 0)) (.cons (.var 12) (.cons (.var 11) (.cons (.call 16 (.cons (.idx (.var 1) (.int 3)) (.cons (.var 2) .nil))) (.cons (.bin .mul (.tup (.cons (.bl false) .nil)) (.blt .len (.cons (.idx (.var 0) (.int 1)) .nil))) .nil)))))))
 .nil)))))))
def d_deed_behind : Df := ⟨"deed_behind", 4, ["deal", "place", "number", "worth", "name", "role", "kind", "when", "steps", "often", "sight", "se\x61ls", "counters"], false, b_deed_behind, [], []⟩
def b_call_behind : Ss :=
 (.cons (.asg (.t (.cons (.v 3) (.cons (.v 4) (.cons (.v 5) (.cons (.v 6) (.cons (.v 7) (.cons (.v 8) (.cons (.v 9) .nil)))))))) (.idx (.idx (.var 0) (.int 6)) (.var 2)))
 (.cons (.set 10 (.bin .add (.blt .len (.cons (.idx (.var 0) (.int 5)) .nil)) (.var 2)))
 (.cons (.ite (.bop false (.cons (.call 10 (.cons (.var 0) (.cons (.var 1) .nil))) (.cons (.cmp .ge (.idx (.idx (.var 1) (.int 3)) (.var 10)) (.var 9)) (.cons (.not (.call 8 (.cons (.var 7) (.cons (.call 12 (.cons (.var 0) (.cons (.var 1) (.cons (.var 4) .nil)))) .nil)))) .nil))))
 (.cons (.ret .non)
 .nil)
 .nil)
 (.cons (.ret (.tup (.cons (.idx (.var 1) (.int 0)) (.cons (.idx (.var 1) (.int 1)) (.cons (.idx (.var 1) (.int 2)) (.cons (.call 16 (.cons (.idx (.var 1) (.int 3)) (.cons (.var 10) .nil))) (.cons (.bin .mul (.tup (.cons (.bl false) .nil)) (.blt .len (.cons (.idx (.var 0) (.int 1)) .nil))) .nil)))))))
 .nil))))
def d_call_behind : Df := ⟨"call_behind", 3, ["deal", "place", "number", "name", "role", "inner", "handed", "when", "counter", "often", "spot"], false, b_call_behind, [], []⟩
def b_pass_behind : Ss :=
 (.cons (.ite (.bop false (.cons (.call 10 (.cons (.var 0) (.cons (.var 1) .nil))) (.cons (.idx (.idx (.var 1) (.int 4)) (.var 2)) .nil)))
 (.cons (.ret .non)
 .nil)
 .nil)
 (.cons (.ret (.bin .add (.slc (.var 1) .no (.so (.int 4))) (.tup (.cons (.bin .add (.bin .add (.slc (.idx (.var 1) (.int 4)) .no (.so (.var 2))) (.tup (.cons (.bl true) .nil))) (.slc (.idx (.var 1) (.int 4)) (.so (.bin .add (.var 2) (.int 1))) .no)) .nil))))
 .nil))
def d_pass_behind : Df := ⟨"pass_behind", 3, ["deal", "place", "role"], false, b_pass_behind, [], []⟩
def b_dawn_behind : Ss :=
 (.cons (.ite (.bop false (.cons (.call 10 (.cons (.var 0) (.cons (.var 1) .nil))) (.cons (.not (.blt .all (.cons (.idx (.var 1) (.int 4)) .nil))) .nil)))
 (.cons (.ret .non)
 .nil)
 .nil)
 (.cons (.ret (.tup (.cons (.bin .add (.idx (.var 1) (.int 0)) (.int 1)) (.cons (.idx (.var 1) (.int 1)) (.cons (.idx (.var 1) (.int 2)) (.cons (.bin .mul (.tup (.cons (.int 0) .nil)) (.blt .len (.cons (.idx (.var 1) (.int 3)) .nil))) (.cons (.bin .mul (.tup (.cons (.bl false) .nil)) (.blt .len (.cons (.idx (.var 1) (.int 4)) .nil))) .nil)))))))
 .nil))
def d_dawn_behind : Df := ⟨"dawn_behind", 2, ["deal", "place"], false, b_dawn_behind, [], []⟩
def b_told_outcome : Ss :=
 (.cons (.set 4 (.idx (.idx (.idx (.var 0) (.int 6)) (.var 2)) (.int 5)))
 (.cons (.set 5 (.blt .min (.cons (.var 3) (.cons (.idx (.idx (.idx (.var 0) (.int 3)) (.var 4)) (.int 1)) .nil))))
 (.cons (.ret (.bin .add (.tup (.cons (.idx (.var 1) (.int 0)) (.cons (.bin .add (.bin .add (.slc (.idx (.var 1) (.int 1)) .no (.so (.var 4))) (.tup (.cons (.var 5) .nil))) (.slc (.idx (.var 1) (.int 1)) (.so (.bin .add (.var 4) (.int 1))) .no)) .nil))) (.slc (.var 1) (.so (.int 2)) .no)))
 .nil)))
def d_told_outcome : Df := ⟨"told_outcome", 4, ["deal", "place", "number", "outcome", "counter", "told"], false, b_told_outcome, [], []⟩
def b_begin_state : Ss :=
 (.cons (.ret (.tup (.cons (.tup (.cons (.bin .sub (.blt .len (.cons (.var 0) .nil)) (.int 1)) (.cons (.call 9 (.cons (.idx (.var 0) (.neg (.int 1))) .nil)) (.cons (.glob "NOBODY" g_NOBODY) .nil)))) .nil)))
 .nil)
def d_begin_state : Df := ⟨"begin_state", 1, ["book"], false, b_begin_state, [], []⟩
def b_place_behind : Ss :=
 (.cons (.ite (.bop false (.cons (.not (.callD 2 (.cons (.var 2) .nil) [.non])) (.cons (.cmp .eq (.blt .len (.cons (.var 2) .nil)) (.int 0)) .nil)))
 (.cons (.ret .non)
 .nil)
 .nil)
 (.cons (.ite (.cmp .eq (.var 2) (.tup (.cons (.str "dawn") .nil)))
 (.cons (.ret (.call 20 (.cons (.var 0) (.cons (.var 1) .nil))))
 .nil)
 .nil)
 (.cons (.ite (.bop true (.cons (.cmp .eq (.idx (.var 2) (.int 0)) (.str "do")) (.cons (.cmp .eq (.blt .len (.cons (.var 2) .nil)) (.int 3)) (.cons (.call 1 (.cons (.idx (.var 2) (.int 1)) (.cons (.int 0) (.cons (.bin .sub (.blt .len (.cons (.idx (.var 0) (.int 5)) .nil)) (.int 1)) .nil)))) .nil))))
 (.cons (.ret (.call 17 (.cons (.var 0) (.cons (.var 1) (.cons (.idx (.var 2) (.int 1)) (.cons (.idx (.var 2) (.int 2)) .nil))))))
 .nil)
 .nil)
 (.cons (.ite (.bop true (.cons (.cmp .eq (.idx (.var 2) (.int 0)) (.str "call")) (.cons (.cmp .eq (.blt .len (.cons (.var 2) .nil)) (.int 2)) (.cons (.call 1 (.cons (.idx (.var 2) (.int 1)) (.cons (.int 0) (.cons (.bin .sub (.blt .len (.cons (.idx (.var 0) (.int 6)) .nil)) (.int 1)) .nil)))) .nil))))
 (.cons (.ret (.call 18 (.cons (.var 0) (.cons (.var 1) (.cons (.idx (.var 2) (.int 1)) .nil)))))
 .nil)
 .nil)
 (.cons (.ite (.bop true (.cons (.cmp .eq (.idx (.var 2) (.int 0)) (.str "pass")) (.cons (.cmp .eq (.blt .len (.cons (.var 2) .nil)) (.int 2)) (.cons (.call 1 (.cons (.idx (.var 2) (.int 1)) (.cons (.int 0) (.cons (.bin .sub (.blt .len (.cons (.idx (.var 0) (.int 1)) .nil)) (.int 1)) .nil)))) .nil))))
 (.cons (.ret (.call 19 (.cons (.var 0) (.cons (.var 1) (.cons (.idx (.var 2) (.int 1)) .nil)))))
 .nil)
 .nil)
 (.cons (.ret .non)
 .nil))))))
def d_place_behind : Df := ⟨"place_behind", 3, ["deal", "place", "row"], false, b_place_behind, [], []⟩
def b_step_row : Ss :=
 (.cons (.asg (.t (.cons (.v 3) (.cons (.v 4) (.cons (.v 5) .nil)))) (.idx (.var 1) (.neg (.int 1))))
 (.cons (.par2 6 7 (.idx (.var 0) (.var 3)) (.call 23 (.cons (.idx (.var 0) (.var 3)) (.cons (.var 4) (.cons (.var 2) .nil)))))
 (.cons (.set 1 (.bin .add (.slc (.var 1) .no (.so (.neg (.int 1)))) (.tup (.cons (.tup (.cons (.var 3) (.cons (.var 7) (.cons (.var 5) .nil)))) .nil))))
 (.cons (.ite (.cmp .eq (.idx (.var 2) (.int 0)) (.str "call"))
 (.cons (.set 8 (.idx (.idx (.idx (.var 6) (.int 6)) (.idx (.var 2) (.int 1))) (.int 2)))
 (.cons (.ret (.bin .add (.var 1) (.tup (.cons (.tup (.cons (.var 8) (.cons (.call 9 (.cons (.idx (.var 0) (.var 8)) .nil)) (.cons (.idx (.var 2) (.int 1)) .nil)))) .nil))))
 .nil))
 .nil)
 (.cons (.ite (.bop true (.cons (.cmp .gt (.blt .len (.cons (.var 1) .nil)) (.int 1)) (.cons (.call 10 (.cons (.var 6) (.cons (.var 7) .nil))) .nil)))
 (.cons (.asg (.t (.cons (.v 9) (.cons (.v 10) (.cons (.v 11) .nil)))) (.idx (.var 1) (.neg (.int 2))))
 (.cons (.set 10 (.call 21 (.cons (.idx (.var 0) (.var 9)) (.cons (.var 10) (.cons (.var 5) (.cons (.call 13 (.cons (.var 6) (.cons (.var 7) .nil))) .nil))))))
 (.cons (.ret (.bin .add (.slc (.var 1) .no (.so (.neg (.int 2)))) (.tup (.cons (.tup (.cons (.var 9) (.cons (.var 10) (.cons (.var 11) .nil)))) .nil))))
 .nil)))
 .nil)
 (.cons (.ret (.var 1))
 .nil))))))
def d_step_row : Df := ⟨"step_row", 3, ["book", "state", "row", "number", "place", "call", "deal", "behind", "inner", "outer", "stood", "begun"], false, b_step_row, [], []⟩
def b_open_holds : Ss :=
 (.cons (.ret (.call 8 (.cons (.var 2) (.cons (.call 12 (.cons (.var 0) (.cons (.var 1) (.cons (.glob "NOBODY" g_NOBODY) .nil)))) .nil))))
 .nil)
def d_open_holds : Df := ⟨"open_holds", 3, ["deal", "place", "condition"], false, b_open_holds, [], []⟩
def b_is_kept : Ss :=
 (.cons (.asg (.t (.cons (.v 4) (.cons (.v 5) (.cons (.v 6) .nil)))) (.var 1))
 (.cons (.ite (.cmp .eq (.idx (.var 5) (.int 0)) (.str "never"))
 (.cons (.ret (.not (.call 25 (.cons (.var 0) (.cons (.var 2) (.cons (.var 6) .nil))))))
 .nil)
 .nil)
 (.cons (.set 7 (.ite (.cmp .eq (.idx (.var 5) (.int 0)) (.str "end")) (.idx (.var 0) (.int 2)) (.idx (.var 5) (.int 1))))
 (.cons (.ret (.bop false (.cons (.not (.var 3)) (.cons (.cmp .ne (.idx (.var 2) (.int 0)) (.var 7)) (.cons (.call 25 (.cons (.var 0) (.cons (.var 2) (.cons (.var 6) .nil)))) .nil)))))
 .nil))))
def d_is_kept : Df := ⟨"is_kept", 4, ["deal", "promise", "place", "is_dawn", "role", "kind", "condition", "day"], false, b_is_kept, [(3, ["is_dawn"])], []⟩
def b_broken : Ss :=
 (.cons (.par3 2 3 4 (.idx (.var 0) (.neg (.int 1))) (.call 22 (.cons (.var 0) .nil)) .dct0)
 (.cons (.for_ (.v 5) (.seq (.fv (.cat (.fv (.disp (.cons .non .nil))) (.fv (.ofSeq (.var 1))))))
 (.cons (.set 6 (.bop true (.cons (.cmp .eq (.var 5) (.tup (.cons (.str "dawn") .nil))) (.cons (.cmp .eq (.blt .len (.cons (.var 3) .nil)) (.int 1)) .nil))))
 (.cons (.ite (.cmp .isnot (.var 5) .non)
 (.cons (.set 3 (.call 24 (.cons (.var 0) (.cons (.var 3) (.cons (.var 5) .nil)))))
 .nil)
 .nil)
 (.cons (.for_ (.t (.cons (.v 7) (.cons (.v 8) .nil))) (.enum (.idx (.var 2) (.int 8)))
 (.cons (.ite (.not (.call 26 (.cons (.var 2) (.cons (.var 8) (.cons (.idx (.idx (.var 3) (.int 0)) (.int 1)) (.cons (.var 6) .nil))))))
 (.cons (.setI (.var 4) (.var 7) (.bl true))
 .nil)
 .nil)
 .nil))
 .nil))))
 (.cons (.ret (.blt .tuple (.cons (.fv (.srt (.var 4))) .nil)))
 .nil)))
def d_broken : Df := ⟨"broken", 2, ["book", "rows", "deal", "state", "found", "row", "is_dawn", "number", "promise"], false, b_broken, [], []⟩
def b_known_begin : Ss :=
 (.cons (.asg (.t (.cons (.v 2) (.cons (.v 3) (.cons (.v 4) (.cons (.v 5) (.cons (.v 6) .nil)))))) (.call 9 (.cons (.var 0) .nil)))
 (.cons (.ret (.tup (.cons (.var 2) (.cons (.var 3) (.cons (.var 4) (.cons (.var 5) (.cons (.bin .mul (.tup (.cons (.bl false) .nil)) (.blt .len (.cons (.var 1) .nil))) (.cons (.tup (.cons (.tup .nil) .nil)) .nil))))))))
 .nil))
def d_known_begin : Df := ⟨"known_begin", 2, ["deal", "roles", "day", "counters", "se\x61ls", "done", "passed"], false, b_known_begin, [], []⟩
def b__law_box : Ss :=
 (.cons (.set 2 (.bin .add (.bin .mul (.int 31013) (.var 1)) (.int 7919)))
 (.cons (.ite (.cmp .lt (.var 1) (.blt .len (.cons (.var 0) .nil)))
 (.cons (.set 2 (.blt .abs (.cons (.blt .int (.cons (.idx (.var 0) (.var 1)) .nil)) .nil)))
 .nil)
 (.cons (.ite (.cmp .gt (.blt .len (.cons (.var 0) .nil)) (.int 0))
 (.cons (.set 2 (.bin .add (.var 2) (.bin .mul (.bin .mod (.blt .int (.cons (.blt .abs (.cons (.blt .int (.cons (.idx (.var 0) (.bin .mod (.blt .int (.cons (.var 1) .nil)) (.blt .len (.cons (.var 0) .nil)))) .nil)) .nil)) .nil)) (.int 2147483563)) (.int 94121))))
 .nil)
 .nil)
 .nil))
 (.cons (.set 3 (.ite (.cmp .ge (.var 2) (.bin .pow (.int 10) (.int 18))) (.var 2) (.int 0)))
 (.cons (.ret (.fm (.disp (.cons (.var 3) (.cons (.bin .add (.bin .mod (.blt .int (.cons (.bin .add (.bin .mul (.bin .mod (.blt .int (.cons (.var 2) .nil)) (.int 2147483563)) (.int 54250013)) (.bin .mul (.int 7919) (.var 1))) .nil)) (.int 2147483563)) (.int 1)) .nil)))))
 .nil))))
def d__law_box : Df := ⟨"_law_box", 2, ["script", "k", "cell", "great"], true, b__law_box, [], []⟩
def b__law_take : Ss :=
 (.cons (.ite (.cmp .gt (.idx (.var 0) (.int 0)) (.int 0))
 (.cons (.set 2 (.bin .mod (.blt .int (.cons (.idx (.var 0) (.int 0)) .nil)) (.var 1)))
 (.cons (.setIx (.var 0) (.int 0) (.bin .fdiv (.idx (.var 0) (.int 0)) (.var 1)))
 (.cons (.ret (.var 2))
 .nil)))
 .nil)
 (.cons (.set 3 (.bin .mod (.blt .int (.cons (.bin .add (.bin .mul (.idx (.var 0) (.int 1)) (.int 39373)) (.int 227)) .nil)) (.int 2147483647)))
 (.cons (.setIx (.var 0) (.int 1) (.bin .add (.bin .mod (.blt .int (.cons (.bin .add (.bin .mul (.var 3) (.int 40692)) (.int 101)) .nil)) (.int 2147483563)) (.int 1)))
 (.cons (.ret (.bin .mod (.blt .int (.cons (.bin .fdiv (.bin .add (.bin .mul (.var 3) (.int 2147483629)) (.idx (.var 0) (.int 1))) (.int 8269)) .nil)) (.var 1)))
 .nil))))
def d__law_take : Df := ⟨"_law_take", 2, ["box", "many", "digit", "raw"], false, b__law_take, [], []⟩
def b__law_pick : Ss :=
 (.cons (.ret (.idx (.var 1) (.call 30 (.cons (.var 0) (.cons (.blt .len (.cons (.var 1) .nil)) .nil)))))
 .nil)
def d__law_pick : Df := ⟨"_law_pick", 2, ["box", "some"], false, b__law_pick, [], []⟩
def b__law_same : Ss :=
 (.cons (.ite (.isi (.var 1) .tuple)
 (.cons (.ite (.bop false (.cons (.not (.isi (.var 0) .tuple)) (.cons (.cmp .ne (.blt .len (.cons (.var 0) .nil)) (.blt .len (.cons (.var 1) .nil))) .nil)))
 (.cons (.ret (.bl false))
 .nil)
 .nil)
 (.cons (.for_ (.t (.cons (.v 2) (.cons (.v 3) .nil))) (.zip (.var 0) (.var 1))
 (.cons (.ite (.not (.call 32 (.cons (.var 2) (.cons (.var 3) .nil))))
 (.cons (.ret (.bl false))
 .nil)
 .nil)
 .nil))
 (.cons (.ret (.bl true))
 .nil)))
 .nil)
 (.cons (.ite (.cmp .is (.var 1) .non)
 (.cons (.ret (.cmp .is (.var 0) .non))
 .nil)
 .nil)
 (.cons (.ite (.bop false (.cons (.cmp .is (.var 1) (.bl true)) (.cons (.cmp .is (.var 1) (.bl false)) .nil)))
 (.cons (.ret (.bop true (.cons (.isi (.var 0) .bool) (.cons (.cmp .eq (.var 0) (.var 1)) .nil))))
 .nil)
 .nil)
 (.cons (.ite (.isi (.var 1) .int)
 (.cons (.ret (.bop true (.cons (.isi (.var 0) .int) (.cons (.not (.isi (.var 0) .bool)) (.cons (.cmp .eq (.var 0) (.var 1)) .nil)))))
 .nil)
 .nil)
 (.cons (.ret (.bop true (.cons (.isi (.var 0) .str) (.cons (.isi (.var 1) .str) (.cons (.cmp .eq (.var 0) (.var 1)) .nil)))))
 .nil)))))
def d__law_same : Df := ⟨"_law_same", 2, ["told", "due", "one", "other"], false, b__law_same, [], []⟩
def b__law_sum : Ss :=
 (.cons (.ite (.cmp .eq (.idx (.var 0) (.int 0)) (.str "number"))
 (.cons (.ret (.idx (.var 0) (.int 1)))
 .nil)
 .nil)
 (.cons (.ite (.cmp .eq (.idx (.var 0) (.int 0)) (.str "day"))
 (.cons (.ret (.idx (.var 1) (.int 0)))
 .nil)
 .nil)
 (.cons (.ite (.cmp .eq (.idx (.var 0) (.int 0)) (.str "count"))
 (.cons (.ret (.idx (.idx (.var 1) (.int 1)) (.idx (.var 0) (.int 1))))
 .nil)
 .nil)
 (.cons (.ite (.cmp .eq (.idx (.var 0) (.int 0)) (.str "se\x61l"))
 (.cons (.ret (.idx (.var 2) (.idx (.var 0) (.int 1))))
 .nil)
 .nil)
 (.cons (.par2 3 4 (.call 33 (.cons (.idx (.var 0) (.int 1)) (.cons (.var 1) (.cons (.var 2) .nil)))) (.call 33 (.cons (.idx (.var 0) (.int 2)) (.cons (.var 1) (.cons (.var 2) .nil)))))
 (.cons (.ite (.bop false (.cons (.cmp .is (.var 3) .non) (.cons (.cmp .is (.var 4) .non) .nil)))
 (.cons (.ret .non)
 .nil)
 .nil)
 (.cons (.ite (.cmp .isin (.idx (.var 0) (.int 0)) (.tup (.cons (.str "plus") (.cons (.str "minus") .nil))))
 (.cons (.ret (.ite (.cmp .eq (.idx (.var 0) (.int 0)) (.str "plus")) (.bin .add (.var 3) (.var 4)) (.bin .sub (.var 3) (.var 4))))
 .nil)
 .nil)
 (.cons (.ite (.cmp .eq (.idx (.var 0) (.int 0)) (.str "times"))
 (.cons (.ret (.bin .mul (.var 3) (.var 4)))
 .nil)
 .nil)
 (.cons (.ret (.ite (.cmp .eq (.idx (.var 0) (.int 0)) (.str "least")) (.blt .min (.cons (.var 3) (.cons (.var 4) .nil))) (.blt .max (.cons (.var 3) (.cons (.var 4) .nil)))))
 .nil)))))))))
def d__law_sum : Df := ⟨"_law_sum", 3, ["told", "place", "sees", "one", "two"], false, b__law_sum, [], []⟩
def b__law_holds : Ss :=
 (.cons (.ite (.cmp .eq (.idx (.var 0) (.int 0)) (.str "yes"))
 (.cons (.ret (.bl true))
 .nil)
 .nil)
 (.cons (.ite (.cmp .eq (.idx (.var 0) (.int 0)) (.str "not"))
 (.cons (.ret (.not (.call 34 (.cons (.idx (.var 0) (.int 1)) (.cons (.var 1) (.cons (.var 2) .nil))))))
 .nil)
 .nil)
 (.cons (.ite (.cmp .isin (.idx (.var 0) (.int 0)) (.tup (.cons (.str "and") (.cons (.str "or") .nil))))
 (.cons (.par2 3 4 (.call 34 (.cons (.idx (.var 0) (.int 1)) (.cons (.var 1) (.cons (.var 2) .nil)))) (.call 34 (.cons (.idx (.var 0) (.int 2)) (.cons (.var 1) (.cons (.var 2) .nil)))))
 (.cons (.ret (.ite (.cmp .eq (.idx (.var 0) (.int 0)) (.str "and")) (.bop true (.cons (.var 3) (.cons (.var 4) .nil))) (.bop false (.cons (.var 3) (.cons (.var 4) .nil)))))
 .nil))
 .nil)
 (.cons (.par2 3 4 (.call 33 (.cons (.idx (.var 0) (.int 1)) (.cons (.var 1) (.cons (.var 2) .nil)))) (.call 33 (.cons (.idx (.var 0) (.int 2)) (.cons (.var 1) (.cons (.var 2) .nil)))))
 (.cons (.ite (.bop false (.cons (.cmp .is (.var 3) .non) (.cons (.cmp .is (.var 4) .non) .nil)))
 (.cons (.ret (.bl false))
 .nil)
 .nil)
 (.cons (.ret (.ite (.cmp .eq (.idx (.var 0) (.int 0)) (.str "less")) (.cmp .lt (.var 3) (.var 4)) (.cmp .eq (.var 3) (.var 4))))
 .nil))))))
def d__law_holds : Df := ⟨"_law_holds", 3, ["told", "place", "sees", "one", "two"], false, b__law_holds, [], []⟩
def b__law_sees : Ss :=
 (.cons (.set 3 (.fm (.disp .nil)))
 (.cons (.for_ (.t (.cons (.v 4) (.cons (.v 5) .nil))) (.enum (.idx (.var 1) (.int 2)))
 (.cons (.set 6 (.bop true (.cons (.cmp .isnot (.var 5) .non) (.cons (.bop false (.cons (.cmp .eq (.idx (.var 5) (.int 0)) (.str "open")) (.cons (.bop true (.cons (.cmp .isnot (.var 2) .non) (.cons (.cmp .eq (.idx (.idx (.idx (.var 0) (.int 4)) (.var 4)) (.int 1)) (.var 2)) .nil))) .nil))) .nil))))
 (.cons (.expr (.app (.var 3) (.ite (.var 6) (.idx (.var 5) (.int 1)) .non)))
 .nil)))
 (.cons (.ret (.blt .tuple (.cons (.var 3) .nil)))
 .nil)))
def d__law_sees : Df := ⟨"_law_sees", 3, ["deal", "place", "role", "found", "se\x61l", "told", "clear"], false, b__law_sees, [], []⟩
def b__law_first : Ss :=
 (.cons (.ret (.tup (.cons (.int 0) (.cons (.blt .tuple (.cons (.comp (.var 3) (.t (.cons (.v 1) (.cons (.v 2) (.cons (.v 3) .nil)))) (.seq (.idx (.var 0) (.int 3))) .no [1, 2, 3]) .nil)) (.cons (.bin .mul (.tup (.cons .non .nil)) (.blt .len (.cons (.idx (.var 0) (.int 4)) .nil))) (.cons (.bin .mul (.tup (.cons (.int 0) .nil)) (.bin .add (.blt .len (.cons (.idx (.var 0) (.int 5)) .nil)) (.blt .len (.cons (.idx (.var 0) (.int 6)) .nil)))) (.cons (.bin .mul (.tup (.cons (.bl false) .nil)) (.blt .len (.cons (.idx (.var 0) (.int 1)) .nil))) .nil)))))))
 .nil)
def d__law_first : Df := ⟨"_law_first", 1, ["deal", "name", "top", "first"], false, b__law_first, [], []⟩
def b__law_stepped : Ss :=
 (.cons (.par2 4 5 (.fm (.ofSeq (.idx (.var 1) (.int 1)))) (.call 35 (.cons (.var 0) (.cons (.var 1) (.cons (.var 2) .nil)))))
 (.cons (.for_ (.t (.cons (.v 6) (.cons (.v 7) .nil))) (.seq (.var 3))
 (.cons (.set 8 (.call 33 (.cons (.var 7) (.cons (.var 1) (.cons (.var 5) .nil)))))
 (.cons (.ite (.bop false (.cons (.cmp .is (.var 8) .non) (.cons (.cmp .lt (.var 8) (.int 0)) (.cons (.cmp .gt (.var 8) (.idx (.idx (.idx (.var 0) (.int 3)) (.var 6)) (.int 1))) .nil))))
 (.cons (.ret .non)
 .nil)
 .nil)
 (.cons (.setIx (.var 4) (.var 6) (.var 8))
 .nil))))
 (.cons (.ret (.blt .tuple (.cons (.var 4) .nil)))
 .nil)))
def d__law_stepped : Df := ⟨"_law_stepped", 4, ["deal", "place", "role", "steps", "row", "sees", "counter", "told", "value"], false, b__law_stepped, [], []⟩
def b__law_done : Ss :=
 (.cons (.asg (.t (.cons (.v 4) (.cons (.v 5) (.cons (.v 6) (.cons (.v 7) (.cons (.v 8) (.cons (.v 9) .nil))))))) (.idx (.idx (.var 0) (.int 5)) (.var 2)))
 (.cons (.ite (.bop false (.cons (.cmp .ge (.idx (.var 1) (.int 0)) (.idx (.var 0) (.int 2))) (.cons (.cmp .ge (.idx (.idx (.var 1) (.int 3)) (.var 2)) (.var 9)) (.cons (.not (.call 34 (.cons (.var 7) (.cons (.var 1) (.cons (.call 35 (.cons (.var 0) (.cons (.var 1) (.cons (.var 5) .nil)))) .nil))))) .nil))))
 (.cons (.ret .non)
 .nil)
 .nil)
 (.cons (.par2 10 11 (.fm (.ofSeq (.idx (.var 1) (.int 2)))) (.call 37 (.cons (.var 0) (.cons (.var 1) (.cons (.var 5) (.cons (.var 8) .nil))))))
 (.cons (.ite (.cmp .is (.var 11) .non)
 (.cons (.ret .non)
 .nil)
 .nil)
 (.cons (.ite (.cmp .eq (.idx (.var 6) (.int 0)) (.str "chooses"))
 (.cons (.ite (.bop false (.cons (.cmp .isnot (.idx (.var 10) (.idx (.var 6) (.int 1))) .non) (.cons (.cmp .is (.var 3) .non) (.cons (.cmp .lt (.var 3) (.int 0)) (.cons (.cmp .gt (.var 3) (.idx (.idx (.idx (.var 0) (.int 4)) (.idx (.var 6) (.int 1))) (.int 2))) .nil)))))
 (.cons (.ret .non)
 .nil)
 .nil)
 (.cons (.setIx (.var 10) (.idx (.var 6) (.int 1)) (.tup (.cons (.str "shut") (.cons (.var 3) .nil))))
 .nil))
 (.cons (.ite (.cmp .eq (.idx (.var 6) (.int 0)) (.str "opens"))
 (.cons (.ite (.bop false (.cons (.cmp .is (.idx (.var 10) (.idx (.var 6) (.int 1))) .non) (.cons (.cmp .ne (.idx (.idx (.var 10) (.idx (.var 6) (.int 1))) (.int 0)) (.str "shut")) (.cons (.cmp .ne (.var 3) (.idx (.idx (.var 10) (.idx (.var 6) (.int 1))) (.int 1))) .nil))))
 (.cons (.ret .non)
 .nil)
 .nil)
 (.cons (.setIx (.var 10) (.idx (.var 6) (.int 1)) (.tup (.cons (.str "open") (.cons (.idx (.idx (.var 10) (.idx (.var 6) (.int 1))) (.int 1)) .nil))))
 .nil))
 (.cons (.ite (.cmp .isnot (.var 3) .non)
 (.cons (.ret .non)
 .nil)
 .nil)
 .nil))
 .nil))
 (.cons (.set 12 (.bin .add (.bin .add (.slc (.idx (.var 1) (.int 3)) .no (.so (.var 2))) (.tup (.cons (.bin .add (.idx (.idx (.var 1) (.int 3)) (.var 2)) (.int 1)) .nil))) (.slc (.idx (.var 1) (.int 3)) (.so (.bin .add (.var 2) (.int 1))) .no)))
 (.cons (.ret (.tup (.cons (.idx (.var 1) (.int 0)) (.cons (.var 11) (.cons (.blt .tuple (.cons (.var 10) .nil)) (.cons (.var 12) (.cons (.bin .mul (.tup (.cons (.bl false) .nil)) (.blt .len (.cons (.idx (.var 1) (.int 4)) .nil))) .nil)))))))
 .nil)))))))
def d__law_done : Df := ⟨"_law_done", 4, ["deal", "place", "number", "worth", "name", "role", "kind", "when", "steps", "times", "se\x61ls", "counters", "done"], false, b__law_done, [], []⟩
def b__law_dawn : Ss :=
 (.cons (.ret (.tup (.cons (.bin .add (.idx (.var 0) (.int 0)) (.int 1)) (.cons (.idx (.var 0) (.int 1)) (.cons (.idx (.var 0) (.int 2)) (.cons (.bin .mul (.tup (.cons (.int 0) .nil)) (.blt .len (.cons (.idx (.var 0) (.int 3)) .nil))) (.cons (.bin .mul (.tup (.cons (.bl false) .nil)) (.blt .len (.cons (.idx (.var 0) (.int 4)) .nil))) .nil)))))))
 .nil)
def d__law_dawn : Df := ⟨"_law_dawn", 1, ["place"], false, b__law_dawn, [], []⟩
def b__law_worths : Ss :=
 (.cons (.set 3 (.idx (.idx (.idx (.var 0) (.int 5)) (.var 2)) (.int 2)))
 (.cons (.ite (.cmp .eq (.idx (.var 3) (.int 0)) (.str "opens"))
 (.cons (.set 4 (.idx (.idx (.var 1) (.int 2)) (.idx (.var 3) (.int 1))))
 (.cons (.ret (.ite (.bop true (.cons (.cmp .isnot (.var 4) .non) (.cons (.cmp .eq (.idx (.var 4) (.int 0)) (.str "shut")) .nil))) (.fv (.disp (.cons (.idx (.var 4) (.int 1)) .nil))) (.fv (.disp .nil))))
 .nil))
 .nil)
 (.cons (.ret (.ite (.cmp .eq (.idx (.var 3) (.int 0)) (.str "chooses")) (.fv (.rng1 (.bin .add (.idx (.idx (.idx (.var 0) (.int 4)) (.idx (.var 3) (.int 1))) (.int 2)) (.int 1)))) (.fv (.disp (.cons .non .nil)))))
 .nil)))
def d__law_worths : Df := ⟨"_law_worths", 3, ["deal", "place", "number", "kind", "told"], false, b__law_worths, [], []⟩
def b__law_rows : Ss :=
 (.cons (.set 2 (.fm (.disp .nil)))
 (.cons (.ite (.cmp .ge (.idx (.var 1) (.int 0)) (.idx (.var 0) (.int 2)))
 (.cons (.ret (.var 2))
 .nil)
 .nil)
 (.cons (.for_ (.v 3) (.rng1 (.blt .len (.cons (.idx (.var 0) (.int 5)) .nil)))
 (.cons (.for_ (.v 4) (.seq (.call 40 (.cons (.var 0) (.cons (.var 1) (.cons (.var 3) .nil)))))
 (.cons (.set 5 (.call 38 (.cons (.var 0) (.cons (.var 1) (.cons (.var 3) (.cons (.var 4) .nil))))))
 (.cons (.ite (.cmp .isnot (.var 5) .non)
 (.cons (.expr (.app (.var 2) (.tup (.cons (.tup (.cons (.str "do") (.cons (.var 3) (.cons (.var 4) .nil)))) (.cons (.var 5) .nil)))))
 .nil)
 .nil)
 .nil)))
 .nil))
 (.cons (.for_ (.t (.cons (.v 6) (.cons (.v 7) .nil))) (.enum (.idx (.var 1) (.int 4)))
 (.cons (.ite (.not (.var 7))
 (.cons (.expr (.app (.var 2) (.tup (.cons (.tup (.cons (.str "pass") (.cons (.var 6) .nil))) (.cons (.bin .add (.slc (.var 1) .no (.so (.int 4))) (.tup (.cons (.bin .add (.bin .add (.slc (.idx (.var 1) (.int 4)) .no (.so (.var 6))) (.tup (.cons (.bl true) .nil))) (.slc (.idx (.var 1) (.int 4)) (.so (.bin .add (.var 6) (.int 1))) .no)) .nil))) .nil)))))
 .nil)
 .nil)
 .nil))
 (.cons (.ite (.cmp .eq (.comp (.int 1) (.v 7) (.seq (.idx (.var 1) (.int 4))) (.so (.not (.var 7))) [7]) (.fv (.disp .nil)))
 (.cons (.expr (.app (.var 2) (.tup (.cons (.tup (.cons (.str "dawn") .nil)) (.cons (.call 39 (.cons (.var 1) .nil)) .nil)))))
 .nil)
 .nil)
 (.cons (.ret (.var 2))
 .nil))))))
def d__law_rows : Df := ⟨"_law_rows", 2, ["deal", "place", "found", "number", "worth", "behind", "role", "passed"], false, b__law_rows, [], []⟩
def b__law_is_small : Ss :=
 (.cons (.set 2 (.call 36 (.cons (.var 0) .nil)))
 (.cons (.par3 3 4 5 (.dct1 (.var 2) (.bl true)) (.fm (.disp (.cons (.var 2) .nil))) (.int 0))
 (.cons (.whl (.bop true (.cons (.cmp .lt (.var 5) (.blt .len (.cons (.var 4) .nil))) (.cons (.cmp .le (.blt .len (.cons (.var 4) .nil)) (.var 1)) .nil)))
 (.cons (.set 6 (.idx (.var 4) (.var 5)))
 (.cons (.set 7 (.fv (.cat (.comp (.var 8) (.t (.cons (.v 9) (.cons (.v 8) .nil))) (.seq (.call 41 (.cons (.var 0) (.cons (.var 6) .nil)))) (.so (.cmp .eq (.idx (.var 9) (.int 0)) (.str "do"))) [9, 8]) (.ite (.cmp .lt (.idx (.var 6) (.int 0)) (.idx (.var 0) (.int 2))) (.fv (.disp (.cons (.call 39 (.cons (.var 6) .nil)) .nil))) (.fv (.disp .nil))))))
 (.cons (.for_ (.v 8) (.seq (.var 7))
 (.cons (.ite (.inD true (.var 8) (.var 3))
 (.cons (.setD (.var 3) (.var 8) (.bl true))
 (.cons (.expr (.app (.var 4) (.var 8)))
 .nil))
 .nil)
 .nil))
 (.cons (.set 5 (.bin .add (.var 5) (.int 1)))
 .nil)))))
 (.cons (.ret (.cmp .le (.blt .len (.cons (.var 4) .nil)) (.var 1)))
 .nil))))
def d__law_is_small : Df := ⟨"_law_is_small", 2, ["deal", "most", "start", "met", "line", "spot", "here", "behind", "place", "row"], false, b__law_is_small, [], []⟩
def b__law_number : Ss :=
 (.cons (.par2 2 3 (.call 30 (.cons (.var 0) (.cons (.int 7) .nil))) (.call 30 (.cons (.var 0) (.cons (.blt .len (.cons (.idx (.var 1) (.int 3)) .nil)) .nil))))
 (.cons (.ite (.cmp .lt (.var 2) (.int 2))
 (.cons (.ret (.tup (.cons (.str "number") (.cons (.call 30 (.cons (.var 0) (.cons (.int 3) .nil))) .nil))))
 .nil)
 .nil)
 (.cons (.ite (.cmp .eq (.var 2) (.int 2))
 (.cons (.ret (.tup (.cons (.str "count") (.cons (.var 3) .nil))))
 .nil)
 .nil)
 (.cons (.ite (.cmp .eq (.var 2) (.int 3))
 (.cons (.ret (.tup (.cons (.str "plus") (.cons (.tup (.cons (.str "count") (.cons (.var 3) .nil))) (.cons (.tup (.cons (.str "number") (.cons (.int 1) .nil))) .nil)))))
 .nil)
 .nil)
 (.cons (.ite (.cmp .eq (.var 2) (.int 4))
 (.cons (.ret (.tup (.cons (.str "minus") (.cons (.tup (.cons (.str "count") (.cons (.var 3) .nil))) (.cons (.tup (.cons (.str "number") (.cons (.int 1) .nil))) .nil)))))
 .nil)
 .nil)
 (.cons (.ite (.bop true (.cons (.cmp .eq (.var 2) (.int 5)) (.cons (.cmp .ne (.idx (.var 1) (.int 4)) (.tup .nil)) .nil)))
 (.cons (.ret (.tup (.cons (.str "se\x61l") (.cons (.call 30 (.cons (.var 0) (.cons (.blt .len (.cons (.idx (.var 1) (.int 4)) .nil)) .nil))) .nil))))
 .nil)
 .nil)
 (.cons (.ret (.ite (.cmp .eq (.var 2) (.int 6)) (.tup (.cons (.str "day") .nil)) (.tup (.cons (.str "plus") (.cons (.tup (.cons (.str "count") (.cons (.var 3) .nil))) (.cons (.tup (.cons (.str "count") (.cons (.call 30 (.cons (.var 0) (.cons (.blt .len (.cons (.idx (.var 1) (.int 3)) .nil)) .nil))) .nil))) .nil))))))
 .nil)))))))
def d__law_number : Df := ⟨"_law_number", 2, ["box", "deal", "way", "counter"], false, b__law_number, [], []⟩
def b__law_when : Ss :=
 (.cons (.set 3 (.call 30 (.cons (.var 0) (.cons (.ite (.cmp .gt (.var 2) (.int 0)) (.int 8) (.int 6)) .nil))))
 (.cons (.ite (.cmp .lt (.var 3) (.int 3))
 (.cons (.ret (.tup (.cons (.idx (.tup (.cons (.str "less") (.cons (.str "same") .nil))) (.call 30 (.cons (.var 0) (.cons (.int 2) .nil)))) (.cons (.tup (.cons (.str "count") (.cons (.call 30 (.cons (.var 0) (.cons (.blt .len (.cons (.idx (.var 1) (.int 3)) .nil)) .nil))) .nil))) (.cons (.tup (.cons (.str "number") (.cons (.call 30 (.cons (.var 0) (.cons (.int 3) .nil))) .nil))) .nil)))))
 .nil)
 .nil)
 (.cons (.ite (.cmp .eq (.var 3) (.int 3))
 (.cons (.ret (.tup (.cons (.idx (.tup (.cons (.str "less") (.cons (.str "same") .nil))) (.call 30 (.cons (.var 0) (.cons (.int 2) .nil)))) (.cons (.call 43 (.cons (.var 0) (.cons (.var 1) .nil))) (.cons (.call 43 (.cons (.var 0) (.cons (.var 1) .nil))) .nil)))))
 .nil)
 .nil)
 (.cons (.ite (.bop true (.cons (.cmp .eq (.var 3) (.int 4)) (.cons (.cmp .ne (.idx (.var 1) (.int 4)) (.tup .nil)) .nil)))
 (.cons (.ret (.tup (.cons (.str "same") (.cons (.tup (.cons (.str "se\x61l") (.cons (.call 30 (.cons (.var 0) (.cons (.blt .len (.cons (.idx (.var 1) (.int 4)) .nil)) .nil))) .nil))) (.cons (.tup (.cons (.str "number") (.cons (.call 30 (.cons (.var 0) (.cons (.int 2) .nil))) .nil))) .nil)))))
 .nil)
 .nil)
 (.cons (.ite (.cmp .lt (.var 3) (.int 6))
 (.cons (.ret (.tup (.cons (.str "yes") .nil)))
 .nil)
 .nil)
 (.cons (.ite (.cmp .eq (.var 3) (.int 6))
 (.cons (.ret (.tup (.cons (.str "not") (.cons (.call 44 (.cons (.var 0) (.cons (.var 1) (.cons (.bin .sub (.var 2) (.int 1)) .nil)))) .nil))))
 .nil)
 .nil)
 (.cons (.ret (.tup (.cons (.idx (.tup (.cons (.str "and") (.cons (.str "or") .nil))) (.call 30 (.cons (.var 0) (.cons (.int 2) .nil)))) (.cons (.call 44 (.cons (.var 0) (.cons (.var 1) (.cons (.bin .sub (.var 2) (.int 1)) .nil)))) (.cons (.call 44 (.cons (.var 0) (.cons (.var 1) (.cons (.bin .sub (.var 2) (.int 1)) .nil)))) .nil)))))
 .nil)))))))
def d__law_when : Df := ⟨"_law_when", 3, ["box", "deal", "deep", "way"], false, b__law_when, [], []⟩
def b__law_any_deal : Ss :=
 (.cons (.set 3 (.blt .tuple (.cons (.comp (.tup (.cons (.bin .add (.str "c") (.blt .str (.cons (.var 12) .nil))) (.cons (.bin .add (.int 1) (.call 30 (.cons (.var 0) (.cons (.int 2) .nil)))) (.cons (.int 0) .nil)))) (.v 12) (.rng1 (.bin .add (.int 1) (.call 30 (.cons (.var 0) (.cons (.int 2) .nil))))) .no [12]) .nil)))
 (.cons (.set 4 (.ite (.cmp .eq (.call 30 (.cons (.var 0) (.cons (.int 2) .nil))) (.int 0)) (.tup (.cons (.tup (.cons (.str "s0") (.cons (.call 30 (.cons (.var 0) (.cons (.var 2) .nil))) (.cons (.int 1) .nil)))) .nil)) (.tup .nil)))
 (.cons (.par2 5 6 (.tup (.cons (.var 1) (.cons (.blt .tuple (.cons (.comp (.bin .add (.str "r") (.blt .str (.cons (.var 8) .nil))) (.v 8) (.rng1 (.var 2)) .no [8]) .nil)) (.cons (.bin .add (.int 1) (.call 30 (.cons (.var 0) (.cons (.int 2) .nil)))) (.cons (.var 3) (.cons (.var 4) .nil)))))) (.fm (.disp .nil)))
 (.cons (.set 7 (.ite (.cmp .ne (.var 4) (.tup .nil)) (.fv (.disp (.cons (.tup (.cons (.idx (.idx (.var 4) (.int 0)) (.int 1)) (.cons (.tup (.cons (.str "chooses") (.cons (.int 0) .nil))) .nil))) (.cons (.tup (.cons (.idx (.idx (.var 4) (.int 0)) (.int 1)) (.cons (.tup (.cons (.str "opens") (.cons (.int 0) .nil))) .nil))) .nil)))) (.fv (.disp .nil))))
 (.cons (.for_ (.v 8) (.rng1 (.var 2))
 (.cons (.set 7 (.fv (.cat (.var 7) (.fv (.rep (.fv (.disp (.cons (.tup (.cons (.var 8) (.cons (.tup (.cons (.str "plain") .nil)) .nil))) .nil))) (.bin .add (.int 1) (.ite (.cmp .eq (.var 2) (.int 2)) (.call 30 (.cons (.var 0) (.cons (.int 2) .nil))) (.int 0))))))))
 .nil))
 (.cons (.for_ (.t (.cons (.v 8) (.cons (.v 9) .nil))) (.seq (.var 7))
 (.cons (.set 10 (.ite (.bop false (.cons (.cmp .eq (.idx (.var 9) (.int 0)) (.str "plain")) (.cons (.cmp .eq (.call 30 (.cons (.var 0) (.cons (.int 3) .nil))) (.int 0)) .nil))) (.tup (.cons (.tup (.cons (.call 30 (.cons (.var 0) (.cons (.blt .len (.cons (.var 3) .nil)) .nil))) (.cons (.call 43 (.cons (.var 0) (.cons (.var 5) .nil))) .nil))) .nil)) (.tup .nil)))
 (.cons (.set 11 (.ite (.bop true (.cons (.cmp .ne (.idx (.var 9) (.int 0)) (.str "plain")) (.cons (.cmp .eq (.call 30 (.cons (.var 0) (.cons (.int 2) .nil))) (.int 0)) .nil))) (.tup (.cons (.str "yes") .nil)) (.call 44 (.cons (.var 0) (.cons (.var 5) (.cons (.int 1) .nil))))))
 (.cons (.expr (.app (.var 6) (.tup (.cons (.bin .add (.str "d") (.blt .str (.cons (.blt .len (.cons (.var 6) .nil)) .nil))) (.cons (.var 8) (.cons (.var 9) (.cons (.var 11) (.cons (.var 10) (.cons (.int 1) .nil)))))))))
 .nil))))
 (.cons (.ret (.bin .add (.var 5) (.tup (.cons (.blt .tuple (.cons (.var 6) .nil)) (.cons (.tup .nil) (.cons (.tup (.cons (.str "count") (.cons (.int 0) .nil))) (.cons (.tup .nil) .nil)))))))
 .nil)))))))
def d__law_any_deal : Df := ⟨"_law_any_deal", 3, ["box", "name", "roles", "counters", "se\x61ls", "deal", "deeds", "kinds", "role", "kind", "steps", "when", "spot"], false, b__law_any_deal, [], []⟩
def b__law_promise : Ss :=
 (.cons (.set 3 (.call 31 (.cons (.var 0) (.cons (.fv (.disp (.cons (.tup (.cons (.str "never") .nil)) (.cons (.tup (.cons (.str "never") .nil)) (.cons (.tup (.cons (.str "by") (.cons (.int 1) .nil))) (.cons (.tup (.cons (.str "end") .nil)) (.cons (.tup (.cons (.str "end") .nil)) .nil))))))) .nil))))
 (.cons (.ret (.tup (.cons (.var 2) (.cons (.var 3) (.cons (.call 44 (.cons (.var 0) (.cons (.var 1) (.cons (.int 1) .nil)))) .nil)))))
 .nil))
def d__law_promise : Df := ⟨"_law_promise", 3, ["box", "deal", "role", "kind"], false, b__law_promise, [], []⟩
def b__law_swap : Ss :=
 (.cons (.set 0 (.tup (.cons (.str "same") (.cons (.tup (.cons (.str "count") (.cons (.int 0) .nil))) (.cons (.tup (.cons (.str "number") (.cons (.int 1) .nil))) .nil)))))
 (.cons (.asg (.t (.cons (.v 1) (.cons (.v 2) .nil))) (.tup (.cons (.tup (.cons (.str "same") (.cons (.tup (.cons (.str "count") (.cons (.int 0) .nil))) (.cons (.tup (.cons (.str "number") (.cons (.int 0) .nil))) .nil)))) (.cons (.tup (.cons (.str "same") (.cons (.tup (.cons (.str "count") (.cons (.int 1) .nil))) (.cons (.tup (.cons (.str "number") (.cons (.int 1) .nil))) .nil)))) .nil))))
 (.cons (.set 3 (.tup (.cons (.tup (.cons (.str "pay") (.cons (.int 0) (.cons (.tup (.cons (.str "plain") .nil)) (.cons (.tup (.cons (.str "yes") .nil)) (.cons (.tup (.cons (.tup (.cons (.int 0) (.cons (.tup (.cons (.str "number") (.cons (.int 1) .nil))) .nil))) .nil)) (.cons (.int 1) .nil))))))) (.cons (.tup (.cons (.str "send") (.cons (.int 1) (.cons (.tup (.cons (.str "plain") .nil)) (.cons (.var 0) (.cons (.tup (.cons (.tup (.cons (.int 1) (.cons (.tup (.cons (.str "number") (.cons (.int 1) .nil))) .nil))) .nil)) (.cons (.int 1) .nil))))))) .nil))))
 (.cons (.set 3 (.bin .add (.var 3) (.tup (.cons (.tup (.cons (.str "undo") (.cons (.int 0) (.cons (.tup (.cons (.str "plain") .nil)) (.cons (.tup (.cons (.str "same") (.cons (.tup (.cons (.str "count") (.cons (.int 1) .nil))) (.cons (.tup (.cons (.str "number") (.cons (.int 0) .nil))) .nil)))) (.cons (.tup (.cons (.tup (.cons (.int 0) (.cons (.tup (.cons (.str "number") (.cons (.int 0) .nil))) .nil))) .nil)) (.cons (.int 1) .nil))))))) .nil))))
 (.cons (.set 4 (.tup (.cons (.tup (.cons (.int 0) (.cons (.tup (.cons (.str "end") .nil)) (.cons (.tup (.cons (.str "or") (.cons (.var 1) (.cons (.var 2) .nil)))) .nil)))) (.cons (.tup (.cons (.int 1) (.cons (.tup (.cons (.str "never") .nil)) (.cons (.tup (.cons (.str "and") (.cons (.var 2) (.cons (.var 1) .nil)))) .nil)))) .nil))))
 (.cons (.ret (.tup (.cons (.str "swap") (.cons (.tup (.cons (.str "buyer") (.cons (.str "seller") .nil))) (.cons (.int 2) (.cons (.tup (.cons (.tup (.cons (.str "paid") (.cons (.int 1) (.cons (.int 0) .nil)))) (.cons (.tup (.cons (.str "sent") (.cons (.int 1) (.cons (.int 0) .nil)))) .nil))) (.cons (.tup .nil) (.cons (.var 3) (.cons (.tup .nil) (.cons (.tup (.cons (.str "plus") (.cons (.tup (.cons (.str "count") (.cons (.int 0) .nil))) (.cons (.tup (.cons (.str "count") (.cons (.int 1) .nil))) .nil)))) (.cons (.var 4) .nil)))))))))))
 .nil))))))
def d__law_swap : Df := ⟨"_law_swap", 0, ["when", "none", "all_sent", "deeds", "promises"], false, b__law_swap, [], []⟩
def b__law_deal : Ss :=
 (.cons (.for_ (.v 2) (.rng1 (.int 5))
 (.cons (.set 3 (.bin .add (.int 2) (.ite (.cmp .eq (.call 30 (.cons (.var 0) (.cons (.int 4) .nil))) (.int 0)) (.int 1) (.int 0))))
 (.cons (.set 4 (.call 45 (.cons (.var 0) (.cons (.str "main") (.cons (.var 3) .nil)))))
 (.cons (.ite (.call 42 (.cons (.var 4) (.cons (.var 1) .nil)))
 (.cons (.set 5 (.comp (.call 46 (.cons (.var 0) (.cons (.var 4) (.cons (.call 30 (.cons (.var 0) (.cons (.var 3) .nil))) .nil)))) (.v 6) (.rng1 (.bin .add (.int 1) (.call 30 (.cons (.var 0) (.cons (.int 2) .nil))))) .no [6]))
 (.cons (.ret (.bin .add (.slc (.var 4) .no (.so (.int 8))) (.tup (.cons (.blt .tuple (.cons (.var 5) .nil)) .nil))))
 .nil))
 .nil)
 .nil))))
 (.cons (.ret (.call 47 .nil))
 .nil))
def d__law_deal : Df := ⟨"_law_deal", 2, ["box", "most", "turn", "roles", "deal", "promises", "spot"], false, b__law_deal, [], []⟩
def b__law_caller : Ss :=
 (.cons (.for_ (.v 5) (.rng1 (.int 5))
 (.cons (.set 6 (.ite (.cmp .lt (.var 5) (.int 4)) (.call 48 (.cons (.var 0) (.cons (.var 1) .nil))) (.call 47 .nil)))
 (.cons (.asg (.t (.cons (.v 7) (.cons (.v 8) .nil))) (.tup (.cons (.blt .len (.cons (.idx (.var 6) (.int 1)) .nil)) (.cons (.call 30 (.cons (.var 0) (.cons (.blt .len (.cons (.idx (.var 6) (.int 3)) .nil)) .nil))) .nil))))
 (.cons (.set 9 (.blt .tuple (.cons (.comp (.call 30 (.cons (.var 0) (.cons (.var 7) .nil))) (.v 13) (.rng1 (.var 3)) .no [13]) .nil)))
 (.cons (.set 10 (.tup (.cons (.var 4) (.cons (.call 30 (.cons (.var 0) (.cons (.var 7) .nil))) (.cons (.var 2) (.cons (.var 9) (.cons (.ite (.cmp .lt (.var 5) (.int 4)) (.call 44 (.cons (.var 0) (.cons (.var 6) (.cons (.int 0) .nil)))) (.tup (.cons (.str "yes") .nil))) (.cons (.var 8) (.cons (.int 1) .nil)))))))))
 (.cons (.set 11 (.comp (.tup (.cons (.tup (.cons (.var 8) (.cons (.tup (.cons (.str "number") (.cons (.var 14) .nil))) .nil))) .nil)) (.v 14) (.rng1 (.bin .add (.idx (.idx (.idx (.var 6) (.int 3)) (.var 8)) (.int 1)) (.int 1))) .no [14]))
 (.cons (.set 12 (.bin .add (.idx (.var 6) (.int 5)) (.blt .tuple (.cons (.comp (.tup (.cons (.str "brought") (.cons (.idx (.var 10) (.int 1)) (.cons (.tup (.cons (.str "plain") .nil)) (.cons (.idx (.var 10) (.int 4)) (.cons (.var 15) (.cons (.int 1) .nil))))))) (.v 15) (.seq (.var 11)) .no [15]) .nil))))
 (.cons (.ite (.bop false (.cons (.cmp .eq (.var 5) (.int 4)) (.cons (.call 42 (.cons (.bin .add (.bin .add (.slc (.var 6) .no (.so (.int 5))) (.tup (.cons (.var 12) (.cons (.tup .nil) .nil)))) (.slc (.var 6) (.so (.int 7)) .no)) (.cons (.bin .mul (.int 10) (.var 1)) .nil))) .nil)))
 (.cons (.ret (.bin .add (.bin .add (.slc (.var 6) .no (.so (.int 6))) (.tup (.cons (.tup (.cons (.var 10) .nil)) .nil))) (.slc (.var 6) (.so (.int 7)) .no)))
 .nil)
 .nil)
 .nil))))))))
 (.cons (.ret .non)
 .nil))
def d__law_caller : Df := ⟨"_law_caller", 5, ["box", "most", "number", "many", "name", "turn", "outer", "roles", "counter", "handed", "call", "steps", "deeds", "role", "told", "step"], false, b__law_caller, [], []⟩
def b__law_with_call : Ss :=
 (.cons (.set 2 (.call 48 (.cons (.var 0) (.cons (.bin .fdiv (.var 1) (.int 4)) .nil))))
 (.cons (.set 2 (.bin .add (.bin .add (.tup (.cons (.str "inner") .nil)) (.slc (.var 2) (.so (.int 1)) (.so (.int 8)))) (.tup (.cons (.tup .nil) .nil))))
 (.cons (.ret (.tup (.cons (.var 2) (.cons (.call 49 (.cons (.var 0) (.cons (.bin .fdiv (.var 1) (.int 4)) (.cons (.int 0) (.cons (.blt .len (.cons (.idx (.var 2) (.int 1)) .nil)) (.cons (.str "k0") .nil)))))) .nil))))
 .nil)))
def d__law_with_call : Df := ⟨"_law_with_call", 2, ["box", "most", "inner"], false, b__law_with_call, [], []⟩
def b__law_breaks : Ss :=
 (.cons (.set 4 (.call 34 (.cons (.idx (.var 1) (.int 2)) (.cons (.var 2) (.cons (.call 35 (.cons (.var 0) (.cons (.var 2) (.cons .non .nil)))) .nil)))))
 (.cons (.ite (.cmp .eq (.idx (.idx (.var 1) (.int 1)) (.int 0)) (.str "never"))
 (.cons (.ret (.var 4))
 .nil)
 .nil)
 (.cons (.set 5 (.ite (.cmp .eq (.idx (.idx (.var 1) (.int 1)) (.int 0)) (.str "end")) (.idx (.var 0) (.int 2)) (.idx (.idx (.var 1) (.int 1)) (.int 1))))
 (.cons (.ret (.bop true (.cons (.var 3) (.cons (.cmp .eq (.idx (.var 2) (.int 0)) (.var 5)) (.cons (.not (.var 4)) .nil)))))
 .nil))))
def d__law_breaks : Df := ⟨"_law_breaks", 4, ["deal", "promise", "place", "risen", "so", "day"], false, b__law_breaks, [], []⟩
def b__law_hidden : Ss :=
 (.cons (.set 3 (.fm (.disp .nil)))
 (.cons (.for_ (.t (.cons (.v 4) (.cons (.v 5) .nil))) (.enum (.idx (.var 2) (.int 2)))
 (.cons (.expr (.app (.var 3) (.ite (.bop false (.cons (.cmp .is (.var 5) .non) (.cons (.cmp .eq (.idx (.var 5) (.int 0)) (.str "open")) (.cons (.cmp .isin (.idx (.idx (.idx (.var 0) (.int 4)) (.var 4)) (.int 1)) (.var 1)) .nil)))) (.var 5) (.tup (.cons (.str "shut") (.cons .non .nil))))))
 .nil))
 (.cons (.ret (.tup (.cons (.idx (.var 2) (.int 0)) (.cons (.idx (.var 2) (.int 1)) (.cons (.blt .tuple (.cons (.var 3) .nil)) (.cons (.idx (.var 2) (.int 3)) (.cons (.blt .tuple (.cons (.comp (.idx (.idx (.var 2) (.int 4)) (.var 6)) (.v 6) (.seq (.var 1)) .no [6]) .nil)) .nil)))))))
 .nil)))
def d__law_hidden : Df := ⟨"_law_hidden", 3, ["deal", "lot", "place", "se\x61ls", "se\x61l", "told", "role"], false, b__law_hidden, [], []⟩
def b__law_book : Ss :=
 (.cons (.ite (.cmp .eq (.call 30 (.cons (.var 0) (.cons (.int 3) .nil))) (.int 0))
 (.cons (.ret (.call 50 (.cons (.var 0) (.cons (.var 1) .nil))))
 .nil)
 .nil)
 (.cons (.ret (.tup (.cons (.call 48 (.cons (.var 0) (.cons (.var 1) .nil))) .nil)))
 .nil))
def d__law_book : Df := ⟨"_law_book", 2, ["box", "most"], false, b__law_book, [], []⟩
def b__law_start : Ss :=
 (.cons (.ret (.tup (.cons (.tup (.cons (.bin .sub (.blt .len (.cons (.var 0) .nil)) (.int 1)) (.cons (.call 36 (.cons (.idx (.var 0) (.neg (.int 1))) .nil)) (.cons (.bin .sub (.int 0) (.int 1)) .nil)))) .nil)))
 .nil)
def d__law_start : Df := ⟨"_law_start", 1, ["book"], false, b__law_start, [], []⟩
def b__law_outcome : Ss :=
 (.cons (.set 2 (.call 33 (.cons (.idx (.var 0) (.int 7)) (.cons (.var 1) (.cons (.call 35 (.cons (.var 0) (.cons (.var 1) (.cons .non .nil)))) .nil)))))
 (.cons (.ret (.ite (.cmp .is (.var 2) .non) (.int 0) (.blt .max (.cons (.int 0) (.cons (.blt .min (.cons (.int 5) (.cons (.var 2) .nil))) .nil)))))
 .nil))
def d__law_outcome : Df := ⟨"_law_outcome", 2, ["deal", "place", "told"], false, b__law_outcome, [], []⟩
def b__law_state_rows : Ss :=
 (.cons (.asg (.t (.cons (.v 2) (.cons (.v 3) (.cons (.v 4) .nil)))) (.idx (.var 1) (.neg (.int 1))))
 (.cons (.par2 5 6 (.idx (.var 0) (.var 2)) (.fm (.disp .nil)))
 (.cons (.set 7 (.call 41 (.cons (.var 5) (.cons (.var 3) .nil))))
 (.cons (.for_ (.t (.cons (.v 8) (.cons (.v 9) .nil))) (.seq (.comp (.var 21) (.v 21) (.seq (.var 7)) (.so (.cmp .eq (.idx (.idx (.var 21) (.int 0)) (.int 0)) (.str "do"))) [21]))
 (.cons (.expr (.app (.var 6) (.tup (.cons (.var 8) (.cons (.bin .add (.slc (.var 1) .no (.so (.neg (.int 1)))) (.tup (.cons (.tup (.cons (.var 2) (.cons (.var 9) (.cons (.var 4) .nil)))) .nil))) .nil)))))
 .nil))
 (.cons (.for_ (.t (.cons (.v 10) (.cons (.t (.cons (.v 11) (.cons (.v 12) (.cons (.v 13) (.cons (.v 14) (.cons (.v 15) (.cons (.v 16) (.cons (.v 17) .nil)))))))) .nil))) (.enum (.idx (.var 5) (.int 6)))
 (.cons (.set 18 (.bin .add (.blt .len (.cons (.idx (.var 5) (.int 5)) .nil)) (.var 10)))
 (.cons (.ite (.bop true (.cons (.cmp .lt (.idx (.var 3) (.int 0)) (.idx (.var 5) (.int 2))) (.cons (.cmp .lt (.idx (.idx (.var 3) (.int 3)) (.var 18)) (.var 17)) (.cons (.call 34 (.cons (.var 15) (.cons (.var 3) (.cons (.call 35 (.cons (.var 5) (.cons (.var 3) (.cons (.var 12) .nil)))) .nil)))) .nil))))
 (.cons (.set 19 (.bin .add (.bin .add (.slc (.idx (.var 3) (.int 3)) .no (.so (.var 18))) (.tup (.cons (.bin .add (.idx (.idx (.var 3) (.int 3)) (.var 18)) (.int 1)) .nil))) (.slc (.idx (.var 3) (.int 3)) (.so (.bin .add (.var 18) (.int 1))) .no)))
 (.cons (.set 20 (.tup (.cons (.var 2) (.cons (.bin .add (.slc (.var 3) .no (.so (.int 3))) (.tup (.cons (.var 19) (.cons (.bin .mul (.tup (.cons (.bl false) .nil)) (.blt .len (.cons (.idx (.var 3) (.int 4)) .nil))) .nil)))) (.cons (.var 4) .nil)))))
 (.cons (.expr (.app (.var 6) (.tup (.cons (.tup (.cons (.str "call") (.cons (.var 10) .nil))) (.cons (.bin .add (.slc (.var 1) .no (.so (.neg (.int 1)))) (.tup (.cons (.var 20) (.cons (.tup (.cons (.var 13) (.cons (.call 36 (.cons (.idx (.var 0) (.var 13)) .nil)) (.cons (.var 10) .nil)))) .nil)))) .nil)))))
 .nil)))
 .nil)
 .nil)))
 (.cons (.for_ (.t (.cons (.v 8) (.cons (.v 9) .nil))) (.seq (.comp (.var 21) (.v 21) (.seq (.var 7)) (.so (.cmp .eq (.idx (.idx (.var 21) (.int 0)) (.int 0)) (.str "pass"))) [21]))
 (.cons (.expr (.app (.var 6) (.tup (.cons (.var 8) (.cons (.bin .add (.slc (.var 1) .no (.so (.neg (.int 1)))) (.tup (.cons (.tup (.cons (.var 2) (.cons (.var 9) (.cons (.var 4) .nil)))) .nil))) .nil)))))
 .nil))
 (.cons (.for_ (.t (.cons (.v 8) (.cons (.v 9) .nil))) (.seq (.comp (.var 21) (.v 21) (.seq (.var 7)) (.so (.cmp .eq (.idx (.idx (.var 21) (.int 0)) (.int 0)) (.str "dawn"))) [21]))
 (.cons (.expr (.app (.var 6) (.tup (.cons (.var 8) (.cons (.call 57 (.cons (.var 0) (.cons (.var 1) (.cons (.var 9) .nil)))) .nil)))))
 .nil))
 (.cons (.ret (.var 6))
 .nil))))))))
def d__law_state_rows : Df := ⟨"_law_state_rows", 2, ["book", "state", "number", "place", "call", "deal", "found", "rows", "row", "behind", "spot", "name", "role", "inner", "handed", "when", "counter", "often", "at", "done", "stood", "one"], false, b__law_state_rows, [], []⟩
def b__law_risen : Ss :=
 (.cons (.asg (.t (.cons (.v 3) (.cons (.v 4) (.cons (.v 5) .nil)))) (.idx (.var 1) (.neg (.int 1))))
 (.cons (.ite (.bop false (.cons (.cmp .eq (.blt .len (.cons (.var 1) .nil)) (.int 1)) (.cons (.cmp .lt (.idx (.var 2) (.int 0)) (.idx (.idx (.var 0) (.var 3)) (.int 2))) .nil)))
 (.cons (.ret (.bin .add (.slc (.var 1) .no (.so (.neg (.int 1)))) (.tup (.cons (.tup (.cons (.var 3) (.cons (.var 2) (.cons (.var 5) .nil)))) .nil))))
 .nil)
 .nil)
 (.cons (.asg (.t (.cons (.v 6) (.cons (.v 7) (.cons (.v 8) .nil)))) (.idx (.var 1) (.neg (.int 2))))
 (.cons (.set 9 (.idx (.idx (.idx (.idx (.var 0) (.var 6)) (.int 6)) (.var 5)) (.int 5)))
 (.cons (.set 10 (.blt .min (.cons (.call 55 (.cons (.idx (.var 0) (.var 3)) (.cons (.var 2) .nil))) (.cons (.idx (.idx (.idx (.idx (.var 0) (.var 6)) (.int 3)) (.var 9)) (.int 1)) .nil))))
 (.cons (.ret (.bin .add (.slc (.var 1) .no (.so (.neg (.int 2)))) (.tup (.cons (.tup (.cons (.var 6) (.cons (.bin .add (.tup (.cons (.idx (.var 7) (.int 0)) (.cons (.bin .add (.bin .add (.slc (.idx (.var 7) (.int 1)) .no (.so (.var 9))) (.tup (.cons (.var 10) .nil))) (.slc (.idx (.var 7) (.int 1)) (.so (.bin .add (.var 9) (.int 1))) .no)) .nil))) (.slc (.var 7) (.so (.int 2)) .no)) (.cons (.var 8) .nil)))) .nil))))
 .nil))))))
def d__law_risen : Df := ⟨"_law_risen", 3, ["book", "state", "behind", "number", "place", "call", "outer", "stood", "begun_now", "counter", "told"], false, b__law_risen, [], []⟩
def b__law_run : Ss :=
 (.cons (.par2 3 4 (.call 54 (.cons (.var 1) .nil)) (.fm (.disp .nil)))
 (.cons (.set 5 (.fm (.disp (.cons (.var 3) .nil))))
 (.cons (.for_ (.v 6) (.rng1 (.var 2))
 (.cons (.set 7 (.call 56 (.cons (.var 1) (.cons (.var 3) .nil))))
 (.cons (.ite (.cmp .eq (.var 7) (.fv (.disp .nil)))
 (.cons (.ret (.tup (.cons (.var 4) (.cons (.var 5) .nil))))
 .nil)
 .nil)
 (.cons (.asg (.t (.cons (.v 8) (.cons (.v 3) .nil))) (.call 31 (.cons (.var 0) (.cons (.var 7) .nil))))
 (.cons (.expr (.app (.var 4) (.var 8)))
 (.cons (.expr (.app (.var 5) (.var 3)))
 .nil))))))
 (.cons (.ret (.tup (.cons (.var 4) (.cons (.var 5) .nil))))
 .nil))))
def d__law_run : Df := ⟨"_law_run", 3, ["box", "book", "most", "state", "rows", "states", "turn", "some", "row"], false, b__law_run, [], []⟩
def b__law_broken : Ss :=
 (.cons (.par2 3 4 (.idx (.var 0) (.neg (.int 1))) (.fm (.disp .nil)))
 (.cons (.for_ (.t (.cons (.v 5) (.cons (.v 6) .nil))) (.enum (.var 1))
 (.cons (.set 7 (.bop true (.cons (.cmp .gt (.var 5) (.int 0)) (.cons (.cmp .eq (.idx (.var 2) (.bin .sub (.var 5) (.int 1))) (.tup (.cons (.str "dawn") .nil))) (.cons (.cmp .eq (.blt .len (.cons (.idx (.var 1) (.bin .sub (.var 5) (.int 1))) .nil)) (.int 1)) .nil)))))
 (.cons (.for_ (.t (.cons (.v 8) (.cons (.v 9) .nil))) (.enum (.idx (.var 3) (.int 8)))
 (.cons (.ite (.bop true (.cons (.cmp .notin (.var 8) (.var 4)) (.cons (.call 51 (.cons (.var 3) (.cons (.var 9) (.cons (.idx (.idx (.var 6) (.int 0)) (.int 1)) (.cons (.var 7) .nil))))) .nil)))
 (.cons (.expr (.app (.var 4) (.var 8)))
 .nil)
 .nil)
 .nil))
 .nil)))
 (.cons (.ret (.blt .tuple (.cons (.fv (.srt (.var 4))) .nil)))
 .nil)))
def d__law_broken : Df := ⟨"_law_broken", 3, ["book", "states", "rows", "deal", "found", "spot", "state", "risen", "number", "promise"], false, b__law_broken, [], []⟩
def b_law : Ss :=
 (.cons (.for_ (.v 1) (.rng1 (.blt .max (.cons (.int 3) (.cons (.blt .min (.cons (.blt .len (.cons (.var 0) .nil)) (.cons (.int 7) .nil))) .nil))))
 (.cons (.set 2 (.call 29 (.cons (.var 0) (.cons (.var 1) .nil))))
 (.cons (.set 3 (.call 53 (.cons (.var 2) (.cons (.int 160) .nil))))
 (.cons (.asg (.t (.cons (.v 4) (.cons (.v 5) .nil))) (.call 58 (.cons (.var 2) (.cons (.var 3) (.cons (.call 30 (.cons (.var 2) (.cons (.int 26) .nil))) .nil)))))
 (.cons (.ite (.not (.call 32 (.cons (.call 27 (.cons (.var 3) (.cons (.blt .tuple (.cons (.var 4) .nil)) .nil))) (.cons (.call 59 (.cons (.var 3) (.cons (.var 5) (.cons (.var 4) .nil)))) .nil))))
 (.cons (.ret (.bl false))
 .nil)
 .nil)
 (.cons (.set 6 (.idx (.var 3) (.neg (.int 1))))
 (.cons (.for_ (.v 7) (.seq (.var 5))
 (.cons (.set 8 (.idx (.idx (.var 7) (.int 0)) (.int 1)))
 (.cons (.for_ (.v 9) (.seq (.idx (.var 6) (.int 8)))
 (.cons (.for_ (.v 10) (.seq (.tup (.cons (.bl true) (.cons (.bl false) .nil))))
 (.cons (.set 11 (.not (.call 51 (.cons (.var 6) (.cons (.var 9) (.cons (.var 8) (.cons (.var 10) .nil)))))))
 (.cons (.set 12 (.tup (.cons (.int 0) .nil)))
 (.cons (.set 13 (.bin .add (.call 52 (.cons (.var 6) (.cons (.var 12) (.cons (.var 8) .nil)))) (.tup (.cons (.tup (.cons (.tup .nil) .nil)) .nil))))
 (.cons (.ite (.not (.call 32 (.cons (.callK 26 (.cons (.var 6) (.cons (.var 9) (.cons (.var 8) .nil))) (.cons (.var 10) .nil)) (.cons (.var 11) .nil))))
 (.cons (.ret (.bl false))
 .nil)
 .nil)
 (.cons (.ite (.bop true (.cons (.inT true (.tup (.cons (.str "shut") (.cons .non .nil))) (.idx (.var 13) (.int 2))) (.cons (.not (.call 32 (.cons (.call 26 (.cons (.var 6) (.cons (.var 9) (.cons (.var 13) (.cons (.var 10) .nil))))) (.cons (.var 11) .nil)))) .nil)))
 (.cons (.ret (.bl false))
 .nil)
 .nil)
 .nil))))))
 (.cons (.ite (.not (.call 32 (.cons (.call 25 (.cons (.var 6) (.cons (.var 8) (.cons (.idx (.var 9) (.int 2)) .nil)))) (.cons (.call 34 (.cons (.idx (.var 9) (.int 2)) (.cons (.var 8) (.cons (.call 35 (.cons (.var 6) (.cons (.var 8) (.cons .non .nil)))) .nil)))) .nil))))
 (.cons (.ret (.bl false))
 .nil)
 .nil)
 .nil)))
 .nil)))
 (.cons (.ite (.cmp .ne (.idx (.call 28 (.cons (.var 6) (.cons (.tup (.cons (.int 0) .nil)) .nil))) (.int 1)) (.idx (.idx (.idx (.idx (.var 5) (.int 0)) (.int 0)) (.int 1)) (.int 1)))
 (.cons (.ret (.bl false))
 .nil)
 .nil)
 .nil))))))))
 (.cons (.ret (.bl true))
 .nil))
def d_law : Df := ⟨"law", 1, ["script", "k", "box", "book", "rows", "states", "deal", "state", "place", "promise", "risen", "due", "lot", "seen"], false, b_law, [], []⟩
def L : List Df := [d_is_int, d_is_number, d_is_tuple, d_laid_out, d_leaf_worth, d_mixed_worth, d_worth_of, d_compares, d_holds, d_begin_place, d_is_over, d_seen_seels, d_sight_of, d_outcome_of, d_stepped, d_seels_behind, d_done_once, d_deed_behind, d_call_behind, d_pass_behind, d_dawn_behind, d_told_outcome, d_begin_state, d_place_behind, d_step_row, d_open_holds, d_is_kept, d_broken, d_known_begin, d__law_box, d__law_take, d__law_pick, d__law_same, d__law_sum, d__law_holds, d__law_sees, d__law_first, d__law_stepped, d__law_done, d__law_dawn, d__law_worths, d__law_rows, d__law_is_small, d__law_number, d__law_when, d__law_any_deal, d__law_promise, d__law_swap, d__law_deal, d__law_caller, d__law_with_call, d__law_breaks, d__law_hidden, d__law_book, d__law_start, d__law_outcome, d__law_state_rows, d__law_risen, d__law_run, d__law_broken, d_law]
end PyD.K16

namespace PyD.K16
open PyD
variable {fuel : Nat}
/-! ### the box -/
structure Bx where
  a : Int
  b : Int
def Bx.ds (s : Bx) : List D := [.int s.a, .int s.b]
@[simp] theorem Bx.closed (s : Bx) : closeds s.ds = true := rfl
def tk (s : Bx) (m : Int) : Int × Bx :=
  if 0 < s.a then (s.a % m, ⟨s.a / m, s.b⟩)
  else let raw := (s.b * 39373 + 227) % 2147483647
    let b := (raw * 40692 + 101) % 2147483563 + 1
    (((raw * 2147483629 + b) / 8269) % m, ⟨s.a, b⟩)
theorem tk_pos (s : Bx) {m : Int} (h : 0 < m) : 0 ≤ (tk s m).1 ∧ (tk s m).1 < m := by
  unfold tk
  split
  · exact ⟨Int.emod_nonneg _ (by omega), Int.emod_lt_of_pos _ h⟩
  · exact ⟨Int.emod_nonneg _ (by omega), Int.emod_lt_of_pos _ h⟩
theorem take_ok (k : Nat) (s : Bx) (m : Int) (hm : 0 < m) (hm2 : m < 1000000) : tabF L fuel (k + 1) 30 [.ref 0, .int m] [.lst s.ds] = some (.int (tk s m).1, [.lst (tk s m).2.ds]) := by
  rw [tab_step (d := d__law_take) rfl]
  obtain ⟨a, b⟩ := s
  have h3 : m < 1073741824 := by omega
  by_cases ha : 0 < a
  · simp [d__law_take, b__law_take, tk, ha, hm, h3, mod_i, fdiv_i, Bx.ds]
    exact fin_o (by simp) (by simp)
  · simp [d__law_take, b__law_take, tk, ha, hm, h3, mod_i, fdiv_i, mul_i, Bx.ds]
    rw [fin_o]
    all_goals simp
theorem c_take {h : AH} {n : Nat} (k : Nat) (s : Bx) (m : Int) (hn : n < h.length) (hm : 0 < m) (hm2 : m < 1000000) :
    callC (tabF L fuel (k + 1) 30) [.ref n, .int m] (h.set n (.lst s.ds)) = some (.int (tk s m).1, h.set n (.lst (tk s m).2.ds)) := by
  rw [callO (es := s.ds) (by simp [hn]) (by simp) (by simp) (take_ok k s m hm hm2) (by simp) (by simp), List.set_set]
theorem c_take0 (k : Nat) (s : Bx) (m : Int) (hm : 0 < m) (hm2 : m < 1000000) :
    callC (tabF L fuel (k + 1) 30) [.ref 0, .int m] [.lst s.ds] = some (.int (tk s m).1, [.lst (tk s m).2.ds]) :=
  c_take (h := [.lst s.ds]) k s m (by simp) hm hm2
theorem pick_ok (k : Nat) (s : Bx) (xs : List D) (x : D) (hx : xs[(tk s xs.length).1.toNat]? = some x) (h0 : 0 < xs.length) (h1 : xs.length < 1000000) (hc : closeds xs = true) :
    tabF L fuel (k + 2) 31 [.ref 0, .lst xs] [.lst s.ds] = some (x, [.lst (tk s xs.length).2.ds]) := by
  rw [tab_step (d := d__law_pick) rfl]
  have hp := tk_pos s (m := xs.length) (by omega)
  have hi : index (.lst xs) (.int (tk s xs.length).1) [.lst (tk s xs.length).2.ds] = some x := by
    have := index_at (d := .lst xs) (h := [.lst (tk s xs.length).2.ds]) (n := (tk s xs.length).1.toNat) rfl hx
    rwa [Int.toNat_of_nonneg hp.1] at this
  simp [d__law_pick, b__law_pick, c_take0 k s xs.length (by omega) (by omega), hi]
  exact fin_o (closeds_mem hc (List.mem_of_getElem? hx)) (by simp)
theorem c_pick {h : AH} {n : Nat} (k : Nat) (s : Bx) (xs : List D) (x : D) (hn : n < h.length) (hx : xs[(tk s xs.length).1.toNat]? = some x) (h0 : 0 < xs.length) (h1 : xs.length < 1000000) (hc : closeds xs = true) :
    callC (tabF L fuel (k + 2) 31) [.ref n, .lst xs] (h.set n (.lst s.ds)) = some (x, h.set n (.lst (tk s xs.length).2.ds)) := by
  rw [callO (es := s.ds) (by simp [hn]) (by simp [hc]) (by simp) (pick_ok k s xs x hx h0 h1 hc) (closeds_mem hc (List.mem_of_getElem? hx)) (by simp), List.set_set]
/-- a box is made -/
def mkB (c : Int) (j : Nat) : Bx := ⟨if 1000000000000000000 ≤ c then c else 0, (c % 2147483563 * 54250013 + 7919 * j) % 2147483563 + 1⟩
def boxTail : Ss := match b__law_box with
  | .cons _ (.cons _ t) => t
  | _ => .nil
theorem boxTail_ok (k : Nat) (x : D) (j : Nat) (c : Int) : (exs (tabF L fuel k) fuel boxTail [some x, some (.int j), some (.int c), none] []).bind (kRun true 0) = some (.ref 0, [.lst (mkB c j).ds]) := by
  have h1000 : binop .pow (.int 10) (.int 18) = some (.int 1000000000000000000) := rfl
  by_cases h2 : (1000000000000000000 : Int) ≤ c
  · simp [boxTail, b__law_box, h2, mul_i, mod_i, h1000, mkB]
    exact fin_m rfl
  · simp [boxTail, b__law_box, h2, mul_i, mod_i, h1000, mkB]
    exact fin_m rfl
theorem box_split : b__law_box = .cons (.set 2 (.bin .add (.bin .mul (.int 31013) (.var 1)) (.int 7919))) (.cons (match b__law_box with
  | .cons _ (.cons t _) => t
  | _ => .pass) boxTail) := rfl
theorem box_ok (k : Nat) (ns : List Int) (j : Nat) (hj : j < 100) : ∃ s : Bx, tabF L fuel (k + 1) 29 [.rol (ns.map .int), .int j] [] = some (.ref 0, [.lst s.ds]) := by
  rw [tab_step (d := d__law_box) rfl]
  show ∃ s : Bx, (exs (tabF L fuel k) fuel b__law_box _ []).bind (kRun true 0) = _
  rw [box_split]
  have hj0 : ¬ (j : Int) < 0 := by omega
  by_cases h1 : j < ns.length
  · have hi : index (.rol (ns.map .int)) (.int j) [] = some (.int ns[j]) := index_at rfl (by simp [h1])
    have h1' : (j : Int) < ns.length := by omega
    generalize hc : (if ns[j] < 0 then -ns[j] else ns[j]) = c
    refine ⟨mkB c j, ?_⟩
    rw [← boxTail_ok (fuel := fuel) k (.rol (ns.map .int))]
    simp [d__law_box, b__law_box, h1', hi, mul_i, mod_i, hc]
  · have h1' : ¬ (j : Int) < ns.length := by omega
    by_cases h0 : 0 < ns.length
    · have h0' : (0 : Int) < ns.length := by omega
      have hlt : j % ns.length < ns.length := Nat.mod_lt _ h0
      have hi : index (.rol (ns.map .int)) (.int ((j : Int) % (ns.length : Int))) [] = some (.int ns[j % ns.length]) := by
        have := index_at (d := .rol (ns.map .int)) (h := []) (n := j % ns.length) rfl (by simp [hlt]; rfl)
        rw [← Int.natCast_emod]
        exact this
      generalize hc : (if ns[j % ns.length] < 0 then -ns[j % ns.length] else ns[j % ns.length]) = c
      refine ⟨mkB (31013 * j + 7919 + (if c < 0 then -c else c) % 2147483563 * 94121) j, ?_⟩
      have hcc : (if c < 0 then -c else c) = c := if_neg (by rw [← hc]; split <;> omega)
      rw [← boxTail_ok (fuel := fuel) k (.rol (ns.map .int))]
      simp [d__law_box, b__law_box, h1, h1', h0, hi, mul_i, mod_i, hc, hcc]
    · refine ⟨mkB (31013 * j + 7919) j, ?_⟩
      rw [← boxTail_ok (fuel := fuel) k (.rol (ns.map .int))]
      have h0' : ns.length = 0 := by omega
      simp [d__law_box, b__law_box, h1, h1', h0, h0', mul_i, mod_i, hj0]
end PyD.K16

namespace PyD.K16
open PyD
variable {fuel : Nat}
/-! ### sums -/
inductive Mx where
  | plus | minus
def Mx.s : Mx → String
  | .plus => "plus" | .minus => "minus"
def Mx.op : Mx → Int → Int → Int
  | .plus, a, b => a + b
  | .minus, a, b => a - b
inductive Sm where
  | num (i : Int) | day | cnt (j : Nat) | seen (j : Nat) | mix (w : Mx) (a b : Sm)
def Sm.e : Sm → D
  | .num i => .tup [.str "number", .int i]
  | .day => .tup [.str "day"]
  | .cnt j => .tup [.str "count", .int j]
  | .seen j => .tup [.str "se\x61l", .int j]
  | .mix w a b => .tup [.str w.s, a.e, b.e]
@[simp] theorem Sm.closed : ∀ t : Sm, closed t.e = true
  | .num _ => rfl
  | .day => rfl
  | .cnt _ => rfl
  | .seen _ => rfl
  | .mix w a b => by simp [Sm.e, Sm.closed a, Sm.closed b]
def vE : Option Int → D
  | none => .non
  | some i => .int i
@[simp] theorem vE_closed (v) : closed (vE v) = true := by cases v <;> rfl
/-- where it is asked -/
structure Pl where
  day : Int
  cs : List Int
  ss : List (Option Int)
def Pl.eC (p : Pl) : D := .tup (p.cs.map .int)
def Pl.eS (p : Pl) : D := .tup (p.ss.map vE)
def Pl.sight (p : Pl) : D := .tup [.int p.day, p.eC, p.eS]
@[simp] theorem Pl.cC (p : Pl) : closed p.eC = true := closeds_map _ (fun _ => rfl) _
@[simp] theorem Pl.cS (p : Pl) : closed p.eS = true := closeds_map _ (fun _ => by simp) _
@[simp] theorem Pl.cSight (p : Pl) : closed p.sight = true := by simp [Pl.sight]
def Sm.okN (nc ns : Nat) : Sm → Prop
  | .num i => True
  | .day => True
  | .cnt j => j < nc
  | .seen j => j < ns
  | .mix _ a b => a.okN nc ns ∧ b.okN nc ns
abbrev Sm.ok (p : Pl) (t : Sm) : Prop := t.okN p.cs.length p.ss.length
def Sm.dep : Sm → Nat
  | .mix _ a b => max a.dep b.dep + 1
  | _ => 0
def Sm.val (p : Pl) : Sm → Option Int
  | .num i => some i
  | .day => some p.day
  | .cnt j => some (p.cs.getD j 0)
  | .seen j => p.ss.getD j none
  | .mix w a b => match a.val p, b.val p with
    | some x, some y => some (w.op x y)
    | _, _ => none
/-! ### same -/
theorem same_b {k : Nat} (hk : 1 ≤ k) (b : Bool) : tabF L fuel k 32 [.bl b, .bl b] [] = some (.bl true, []) := by
  obtain ⟨k, rfl⟩ : ∃ m, k = m + 1 := ⟨k - 1, by omega⟩
  rw [tab_step (d := d__law_same) rfl]
  cases b <;> (simp [d__law_same, b__law_same, vE, isTy, fin_0]; rfl)
theorem c_same_b {k : Nat} (hk : 1 ≤ k) (b : Bool) (h : AH) : callC (tabF L fuel k 32) [.bl b, .bl b] h = some (.bl true, h) := callV (by simp) (same_b hk b) rfl
theorem same_2 {k : Nat} (hk : 2 ≤ k) (a b : Bool) : tabF L fuel k 32 [.tup [.bl a, .bl b], .tup [.bl a, .bl b]] [] = some (.bl true, []) := by
  obtain ⟨k, rfl⟩ : ∃ m, k = m + 1 := ⟨k - 1, by omega⟩
  rw [tab_step (d := d__law_same) rfl]
  simp [d__law_same, b__law_same, isTy, kFor_ap, forL, okL, cur, put, puts, c_same_b (fuel := fuel) (k := k) (by omega)]
  exact fin_0 rfl
theorem c_same_2 {k : Nat} (hk : 2 ≤ k) (a b : Bool) (h : AH) : callC (tabF L fuel k 32) [.tup [.bl a, .bl b], .tup [.bl a, .bl b]] h = some (.bl true, h) := callV rfl (same_2 hk a b) rfl
/-! ### mixing -/
theorem mixed_some (k : Nat) (w : Mx) (x y : Int) : tabF L fuel (k + 1) 5 [.str w.s, .int x, .int y] [] = some (.int (w.op x y), []) := by
  rw [tab_step (d := d_mixed_worth) rfl]
  cases w <;> (simp [d_mixed_worth, b_mixed_worth, Mx.s, Mx.op]; rfl)
def opV (w : Mx) : Option Int → Option Int → Option Int
  | some x, some y => some (w.op x y)
  | _, _ => none
theorem mixed_ok (k : Nat) (w : Mx) (a b : Option Int) : tabF L fuel (k + 1) 5 [.str w.s, vE a, vE b] [] = some (vE (opV w a b), []) := by
  cases a with
  | none =>
    rw [tab_step (d := d_mixed_worth) rfl]
    simp [d_mixed_worth, b_mixed_worth, vE, opV]; rfl
  | some x =>
    cases b with
    | none =>
      rw [tab_step (d := d_mixed_worth) rfl]
      simp [d_mixed_worth, b_mixed_worth, vE, opV]; rfl
    | some y => exact mixed_some k w x y
theorem c_mixed (k : Nat) (w : Mx) (a b : Option Int) (h : AH) : callC (tabF L fuel (k + 1) 5) [.str w.s, vE a, vE b] h = some (vE (opV w a b), h) :=
  callV (by simp) (mixed_ok k w a b) (by simp)
theorem ix_cs {p : Pl} {j : Nat} (hj : j < p.cs.length) (h : AH) : index p.eC (.int j) h = some (.int (p.cs.getD j 0)) :=
  index_at rfl (by simp [List.getD_eq_getElem?_getD, List.getElem?_eq_getElem hj])
theorem ix_ss {p : Pl} {j : Nat} (hj : j < p.ss.length) (h : AH) : index p.eS (.int j) h = some (vE (p.ss.getD j none)) :=
  index_at rfl (by simp [List.getD_eq_getElem?_getD, List.getElem?_eq_getElem hj])
/-! ### the direct reading -/
theorem sum_ok (p : Pl) (rest : List D) (hr : closeds rest = true) : ∀ (t : Sm) (k : Nat), t.ok p → tabF L fuel (k + t.dep + 1) 33 [t.e, .tup (.int p.day :: p.eC :: rest), p.eS] [] = some (vE (t.val p), [])
  | .num i, k, h => by
    rw [tab_step (d := d__law_sum) rfl]
    simp [d__law_sum, b__law_sum, Sm.e, Sm.val, vE]; rfl
  | .day, k, h => by
    rw [tab_step (d := d__law_sum) rfl]
    simp [d__law_sum, b__law_sum, Sm.e, Sm.val, vE]; rfl
  | .cnt j, k, h => by
    rw [tab_step (d := d__law_sum) rfl]
    simp only [Sm.ok, Sm.okN] at h
    have h1 : ∀ H, index (.tup (.int p.day :: p.eC :: rest)) (.int 1) H = some p.eC := fun H => index_at (n := 1) rfl rfl
    simp [d__law_sum, b__law_sum, Sm.e, Sm.val, vE, h1, ix_cs h]; rfl
  | .seen j, k, h => by
    rw [tab_step (d := d__law_sum) rfl]
    simp only [Sm.ok, Sm.okN] at h
    simp [d__law_sum, b__law_sum, Sm.e, Sm.val, ix_ss h]
    exact fin_0 (by simp)
  | .mix w a b, k, h => by
    have e1 : k + (max a.dep b.dep + 1) = (k + max a.dep b.dep - a.dep) + a.dep + 1 := by omega
    have e2 : k + (max a.dep b.dep + 1) = (k + max a.dep b.dep - b.dep) + b.dep + 1 := by omega
    have ha : callC (tabF L fuel (k + (max a.dep b.dep + 1)) 33) [a.e, .tup (.int p.day :: p.eC :: rest), p.eS] [] = some (vE (a.val p), []) := by
      rw [e1]; exact callV (by simp [hr]) (sum_ok p rest hr a _ h.1) (by simp)
    have hb : callC (tabF L fuel (k + (max a.dep b.dep + 1)) 33) [b.e, .tup (.int p.day :: p.eC :: rest), p.eS] [] = some (vE (b.val p), []) := by
      rw [e2]; exact callV (by simp [hr]) (sum_ok p rest hr b _ h.2) (by simp)
    simp only [Sm.dep, Sm.e]
    rw [tab_step (d := d__law_sum) rfl]
    generalize hA : a.val p = va at ha
    generalize hB : b.val p = vb at hb
    cases va with
    | none => cases w <;> (simp [d__law_sum, b__law_sum, Mx.s, ha, hb, Sm.val, hA, hB, vE]; rfl)
    | some x =>
      cases vb with
      | none => cases w <;> (simp [d__law_sum, b__law_sum, Mx.s, ha, hb, Sm.val, hA, hB, vE]; rfl)
      | some y =>
        cases w <;> (simp [d__law_sum, b__law_sum, Mx.s, ha, hb, Sm.val, hA, hB, vE, Mx.op, isin_tup, flat, beqD]; rfl)
end PyD.K16

namespace PyD.K16
open PyD
variable {fuel : Nat}
/-! ### laid out -/
structure Nd (T : Type) (ks : List String) where
  e : T → D
  kids : T → List T
  sz : T → Nat
  hd : T → String
  rest : T → List D
  he : ∀ t, e t = .tup (.str (hd t) :: rest t)
  hin : ∀ t, (ks.any fun y => y == hd t) = true → rest t = (kids t).map e
  hout : ∀ t, (ks.any fun y => y == hd t) = false → kids t = []
  hc : ∀ t, closed (e t) = true
  hsz : ∀ t, sz t = ((kids t).map sz).sum + 1
def rowD (js : List Nat) : List D := js.map fun j => .int (j : Nat)
@[simp] theorem rowD_c (js) : closeds (rowD js) = true := closeds_map _ (fun _ => rfl) _
def refs (n : Nat) : List D := (List.range n).map fun i => .ref (i + 2)
theorem refs_succ (n) : refs (n + 1) = refs n ++ [.ref (n + 2)] := by simp [refs, List.range_succ]
def loB2 : Ss := .cons (.expr (.app (.var 5) (.blt .len (.cons (.var 2) .nil)))) (.cons (.expr (.app (.var 2) (.var 6))) .nil)
def loC : Ex := .cmp .lt (.var 4) (.blt .len (.cons (.var 2) .nil))
def loB : Ss := .cons (.set 5 (.fm (.disp .nil)))
 (.cons (.ite (.cmp .isin (.idx (.idx (.var 2) (.var 4)) (.int 0)) (.var 1))
 (.cons (.for_ (.v 6) (.seq (.slc (.idx (.var 2) (.var 4)) (.so (.int 1)) .no)) loB2) .nil) .nil)
 (.cons (.expr (.app (.var 3) (.var 5)))
 (.cons (.aug 4 .add (.int 1)) .nil)))
theorem b_laid_eq : b_laid_out = .cons (.par3 2 3 4 (.fm (.disp (.cons (.var 0) .nil))) (.fm (.disp .nil)) (.int 0)) (.cons (.whl loC loB) (.cons (.ret (.tup (.cons (.var 2) (.cons (.var 3) .nil)))) .nil)) := rfl
section
variable {T : Type} {ks : List String}
theorem at_last {α : Type} (a b : α) (r : List α) (x : α) (n : Nat) (hn : r.length = n) : (a :: b :: (r ++ [x]))[n + 2]? = some x := by
  subst hn; simp
theorem set_last {α : Type} (a b : α) (r : List α) (x y : α) (n : Nat) (hn : r.length = n) : (a :: b :: (r ++ [x])).set (n + 2) y = a :: b :: (r ++ [y]) := by
  subst hn; simp
/-- the inner walk -/
theorem lo_for (C : Nat → Fun) (N : Nd T ks) (x0 x1 x4 : Option D) (len : Nat) (R : List AO) (B : AO) (n : Nat) (hR : R.length = n) : ∀ (cs : List T) (i : Nat) (ns : List T) (js : List Nat) (q : Option D), ns.length + cs.length ≤ 2000 → js.length + cs.length ≤ 2000 →
    ∃ q', forL (.v 6) none len (exs C fuel loB2) (cs.map N.e) i [x0, x1, some (.ref 0), some (.ref 1), x4, some (.ref (n + 2)), q] (.lst (ns.map N.e) :: B :: (R ++ [.lst (rowD js)])) =
      some (.nx, [x0, x1, some (.ref 0), some (.ref 1), x4, some (.ref (n + 2)), q'], .lst ((ns ++ cs).map N.e) :: B :: (R ++ [.lst (rowD (js ++ List.range' ns.length cs.length))]))
  | [], i, ns, js, q, h1, h2 => ⟨q, by simp [forL, okL]⟩
  | c :: cs, i, ns, js, q, h1, h2 => by
    simp only [List.length_cons] at h1 h2
    obtain ⟨q', ih⟩ := lo_for C N x0 x1 x4 len R B n hR cs (i + 1) (ns ++ [c]) (js ++ [ns.length]) (some (N.e c)) (by simp; omega) (by simp; omega)
    refine ⟨q', ?_⟩
    have a1 : kApp2 (.ref (n + 2)) (.int (ns.length : Nat), .lst (ns.map N.e) :: B :: (R ++ [.lst (rowD js)])) = some (.non, .lst (ns.map N.e) :: B :: (R ++ [.lst (rowD (js ++ [ns.length]))])) := by
      rw [kApp2_ap (at_last _ _ _ _ _ hR) (by simp [rowD, lim]; omega), set_last _ _ _ _ _ _ hR]
      simp [rowD]
    have a2 : kApp2 (.ref 0) (N.e c, .lst (ns.map N.e) :: B :: (R ++ [.lst (rowD (js ++ [ns.length]))])) = some (.non, .lst ((ns ++ [c]).map N.e) :: B :: (R ++ [.lst (rowD (js ++ [ns.length]))])) := by
      rw [kApp2_ap (ds := ns.map N.e) rfl (by simp [lim]; omega)]
      simp
    have l1 : ∀ r, bltf .len [.ref 0] (.lst (ns.map N.e) :: r) = some (.int (ns.length : Nat)) := fun r => by rw [len_ref (xs := ns.map N.e) rfl]; simp
    have l2 : litems (.ref (n + 2)) (.lst (ns.map N.e) :: B :: (R ++ [.lst (rowD js)])) = some (rowD js) := litems_ref (at_last _ _ _ _ _ hR)
    have eb : exs C fuel loB2 [x0, x1, some (.ref 0), some (.ref 1), x4, some (.ref (n + 2)), some (N.e c)] (.lst (ns.map N.e) :: B :: (R ++ [.lst (rowD js)])) = some (.nx, [x0, x1, some (.ref 0), some (.ref 1), x4, some (.ref (n + 2)), some (N.e c)], .lst ((ns ++ [c]).map N.e) :: B :: (R ++ [.lst (rowD (js ++ [ns.length]))])) := by
      simp only [loB2, exs_cons, ex_expr, ev_app, ev_var, List.getElem?_cons_succ, List.getElem?_cons_zero, kvar_ap, Option.bind_some, kApp_ap, ev_blt, evs_cons, kEs_ap, evs_nil, kEs2_ap, kBlt_ap, l1, l2, lit0, kOut_eq, a1, kExpr_ap, kSeq_nx, a2, exs_nil]
    simp only [List.map_cons, forL, okL, cur, if_true, Option.bind_some, put_v, List.set_cons_succ, List.set_cons_zero, eb]
    rw [ih]
    simp [List.range'_succ]
def Good (N : Nd T ks) (ns : List T) (ps : List (List Nat)) : Prop := ∀ i t, i < ps.length → ns[i]? = some t → ∃ js, ps[i]? = some js ∧ js.map (fun j => ns[j]?) = (N.kids t).map some ∧ ∀ j ∈ js, i < j
def hp (N : Nd T ks) (ns : List T) (ps : List (List Nat)) : AH := .lst (ns.map N.e) :: .lst (refs ps.length) :: ps.map fun js => .lst (rowD js)
theorem sum_ge (f : T → Nat) (hf : ∀ t, 1 ≤ f t) : ∀ l : List T, l.length ≤ (l.map f).sum
  | [] => Nat.le_refl _
  | a :: l => by
    have := sum_ge f hf l
    have := hf a
    simp; omega
theorem good_app (N : Nd T ks) {ns : List T} {ps : List (List Nat)} {t : T} (g : Good N ns ps) (ht : ns[ps.length]? = some t) : Good N (ns ++ N.kids t) (ps ++ [List.range' ns.length (N.kids t).length]) := by
  intro i t' hi ht'
  have hl := (List.getElem?_eq_some_iff.mp ht).1
  by_cases h : i < ps.length
  · rw [List.getElem?_append_left (by omega)] at ht'
    obtain ⟨js, e1, e2, e3⟩ := g i t' h ht'
    refine ⟨js, by rw [List.getElem?_append_left h]; exact e1, ?_, e3⟩
    rw [← e2]
    apply List.map_congr_left
    intro j hj
    have : ns[j]? ≠ none := fun z => by
      have hm : (none : Option T) ∈ js.map (fun j => ns[j]?) := by rw [← z]; exact List.mem_map_of_mem hj
      rw [e2] at hm
      simp at hm
    have hjl : j < ns.length := by
      by_cases q : j < ns.length
      · exact q
      · exact absurd (List.getElem?_eq_none (by omega)) this
    exact List.getElem?_append_left hjl
  · have : i = ps.length := by simp at hi; omega
    subst this
    rw [List.getElem?_append_left hl, ht] at ht'
    cases ht'
    refine ⟨List.range' ns.length (N.kids t).length, by simp, ?_, fun j hj => ?_⟩
    · apply List.ext_getElem?
      intro m
      by_cases hm : m < (N.kids t).length
      · simp [hm, List.getElem?_append_right]
      · rw [List.getElem?_eq_none (by simp; omega), List.getElem?_eq_none (by simp; omega)]
    · simp [List.mem_range'] at hj; omega
theorem mapRs_map {α : Type} {g : Nat → Option D} (f f' : α → D) : ∀ l : List α, (∀ x ∈ l, mapR g (f x) = some (f' x)) → mapRs g (l.map f) = some (l.map f')
  | [], _ => rfl
  | a :: l, h => by
    simp only [List.map_cons, mapRs, h a (by simp), mapRs_map f f' l (fun x hx => h x (by simp [hx])), Option.bind_some, Option.map_some]
theorem fin_laid (N : Nd T ks) (ns : List T) (ps : List (List Nat)) : fin false 0 (.tup [.ref 0, .ref 1]) (hp N ns ps) = some (.tup [.lst (ns.map N.e), .lst (ps.map fun js => .lst (rowD js))], []) := by
  have c0 : closeds (ns.map N.e) = true := closeds_map _ N.hc _
  have g0 : ∀ n, fzR (hp N ns ps) (fun j => decide (0 ≤ j)) (n + 1) 0 = some (.lst (ns.map N.e)) := fun n => by
    simp [fzR, hp, mapRs_c _ c0]
  have gi : ∀ n i (hi : i < ps.length), fzR (hp N ns ps) (fun j => decide (0 ≤ j)) (n + 1) (i + 2) = some (.lst (rowD ps[i])) := fun n i hi => by
    simp [fzR, hp, hi, mapRs_c _ (rowD_c _)]
  have g1 : ∀ n, fzR (hp N ns ps) (fun j => decide (0 ≤ j)) (n + 2) 1 = some (.lst (ps.map fun js => .lst (rowD js))) := fun n => by
    have e : mapRs (fzR (hp N ns ps) (fun j => decide (0 ≤ j)) (n + 1)) (refs ps.length) = some ((List.range ps.length).map fun i => .lst (rowD (ps.getD i []))) := by
      refine mapRs_map _ _ _ fun i hi => ?_
      have hi := List.mem_range.mp hi
      simp only [mapR, gi n i hi, List.getD_eq_getElem?_getD, List.getElem?_eq_getElem hi, Option.getD_some]
    have e2 : ((List.range ps.length).map fun i => D.lst (rowD (ps.getD i []))) = ps.map fun js => .lst (rowD js) := by
      apply List.ext_getElem?
      intro m
      by_cases hm : m < ps.length
      · simp [hm]
      · rw [List.getElem?_eq_none (by simp; omega), List.getElem?_eq_none (by simp; omega)]
    rw [e2] at e
    show (if decide (0 ≤ 1) = true then (match (hp N ns ps)[1]? with | some (AO.lst ds) => (mapRs (fzR (hp N ns ps) (fun j => decide (0 ≤ j)) (n + 1)) ds).map D.lst | _ => none) else none) = _
    rw [if_pos (by decide)]
    show (mapRs _ (refs ps.length)).map D.lst = _
    rw [e]; rfl
  unfold fin
  rw [if_pos (by simp)]
  simp only [Bool.false_eq_true, if_false, mapR, mapRs, g0 5, g1 4, Option.bind_some, Option.map_some, List.take_zero]
theorem laid_ok (k : Nat) (N : Nd T ks) (t : T) (hs : N.sz t < fuel) (hs2 : N.sz t ≤ 1000) (P : T → Prop) (hP : P t) (hk : ∀ t, P t → ∀ c ∈ N.kids t, P c) (hks : closeds (ks.map .str) = true) :
    ∃ (ns : List T) (ps : List (List Nat)), tabF L fuel (k + 1) 3 [N.e t, .tup (ks.map .str)] [] = some (.tup [.lst (ns.map N.e), .lst (ps.map fun js => .lst (rowD js))], []) ∧ ns.length = ps.length ∧ ns[0]? = some t ∧ Good N ns ps ∧ (∀ x ∈ ns, P x) ∧ ns.length ≤ N.sz t := by
  rw [tab_step (d := d_laid_out) rfl]
  show ∃ ns ps, (exs (tabF L fuel k) fuel b_laid_out _ []).bind (kRun false 0) = _ ∧ _
  rw [b_laid_eq]
  have hsz1 : ∀ t, 1 ≤ N.sz t := fun t => by rw [N.hsz]; omega
  let kd : D := .tup (ks.map .str)
  obtain ⟨f, σ', h', hw, rfl, ns, ps, r, q, rfl, rfl, hlen, h0, hg, hall, hle⟩ := while_ok (c := tst (tabF L fuel k) loC) (b := exs (tabF L fuel k) fuel loB)
    (fun n σ h => ∃ ns ps r q, σ = [some (N.e t), some kd, some (.ref 0), some (.ref 1), some (.int (ps.length : Nat)), r, q] ∧ h = hp N ns ps ∧ n = ((ns.drop ps.length).map N.sz).sum ∧ ps.length ≤ ns.length ∧ ps.length + n ≤ N.sz t ∧ ns[0]? = some t ∧ Good N ns ps ∧ ∀ x ∈ ns, P x)
    (fun f σ h => f = .nx ∧ ∃ ns ps r q, σ = [some (N.e t), some kd, some (.ref 0), some (.ref 1), some (.int (ps.length : Nat)), r, q] ∧ h = hp N ns ps ∧ ns.length = ps.length ∧ ns[0]? = some t ∧ Good N ns ps ∧ (∀ x ∈ ns, P x) ∧ ns.length ≤ N.sz t)
    (fun n σ h ⟨ns, ps, r, q, e1, e2, hn, hpl, hps, h0, hg, hall⟩ => by
      subst e1; subst e2
      have l1 : ∀ r, bltf .len [.ref 0] (.lst (ns.map N.e) :: r) = some (.int (ns.length : Nat)) := fun r => by rw [len_ref (xs := ns.map N.e) rfl]; simp
      by_cases hlt : ps.length < ns.length
      · right
        have ht : ns[ps.length]? = some ns[ps.length] := List.getElem?_eq_getElem hlt
        generalize ns[ps.length] = t' at ht
        have hdrop : ns.drop ps.length = t' :: ns.drop (ps.length + 1) := by
          rw [List.drop_eq_getElem_cons hlt]
          rw [List.getElem?_eq_getElem hlt] at ht
          cases ht; rfl
        have hq : ns.length - ps.length ≤ n := by
          have := sum_ge N.sz hsz1 (ns.drop ps.length)
          rw [← hn] at this; simpa using this
        have hn1 : n = ((ns.drop (ps.length + 1)).map N.sz).sum + ((N.kids t').map N.sz).sum + 1 := by
          rw [hn, hdrop, List.map_cons, List.sum_cons, N.hsz t']; omega
        have hkl : (N.kids t').length ≤ ((N.kids t').map N.sz).sum := sum_ge N.sz hsz1 _
        have hix : ∀ r, index (.ref 0) (.int (ps.length : Nat)) (.lst (ns.map N.e) :: r) = some (.tup (.str (N.hd t') :: N.rest t')) := fun r => by
          rw [← N.he]
          exact index_at (xs := ns.map N.e) (items_ref rfl) (by simp [ht])
        have hpr : ∀ (x : AO) (r : List AO) (row : List Nat), kApp2 (.ref 1) (.ref (ps.length + 2), x :: .lst (refs ps.length) :: r) = some (.non, x :: .lst (refs (ps.length + 1)) :: r) := fun x r row => by
          rw [kApp2_ap (ds := refs ps.length) rfl (by simp [refs, lim]; omega), refs_succ]; rfl
        have hli : ∀ (x : AO) (r : List AO), litems (.ref 1) (x :: .lst (refs ps.length) :: r) = some (refs ps.length) := fun _ _ => rfl
        have hR : (ps.map fun js => AO.lst (rowD js)).length = ps.length := by simp
        have hc : (ps.length : Int) < (ns.length : Int) := by omega
        have hend : ∀ q', ∃ n', n' < n ∧ ∃ ns_1 ps_1 r q, [some (N.e t), some kd, some (.ref 0), some (.ref 1), some (.int ((ps.length : Nat) + 1 : Int)), some (.ref (ps.length + 2)), q'] = [some (N.e t), some kd, some (.ref 0), some (.ref 1), some (.int (ps_1.length : Nat)), r, q] ∧
            (.lst ((ns ++ N.kids t').map N.e) :: .lst (refs (ps.length + 1)) :: ((ps.map fun js => AO.lst (rowD js)) ++ [.lst (rowD (List.range' ns.length (N.kids t').length))]) : AH) = hp N ns_1 ps_1 ∧ n' = ((ns_1.drop ps_1.length).map N.sz).sum ∧ ps_1.length ≤ ns_1.length ∧ ps_1.length + n' ≤ N.sz t ∧ ns_1[0]? = some t ∧ Good N ns_1 ps_1 ∧ ∀ x ∈ ns_1, P x := fun q' => by
          refine ⟨((ns.drop (ps.length + 1)).map N.sz).sum + ((N.kids t').map N.sz).sum, by omega, ns ++ N.kids t', ps ++ [List.range' ns.length (N.kids t').length], some (.ref (ps.length + 2)), q', by simp, by simp [hp], ?_, ?_, ?_, ?_, good_app N hg ht, ?_⟩
          · rw [List.length_append, List.length_singleton, List.drop_append_of_le_length (by omega)]; simp
          · simp; omega
          · rw [List.length_append, List.length_singleton]; omega
          · rw [List.getElem?_append_left (by omega)]; exact h0
          · intro x hx
            rcases List.mem_append.mp hx with hx | hx
            · exact hall x hx
            · exact hk t' (hall t' (List.mem_of_getElem? ht)) x hx
        cases hin : ks.any fun y => y == N.hd t' with
        | true =>
          obtain ⟨q', hf⟩ := lo_for (fuel := fuel) (tabF L fuel k) N (some (N.e t)) (some (.tup (ks.map .str))) (some (.int (ps.length : Nat))) (N.rest t').length (ps.map fun js => AO.lst (rowD js)) (.lst (refs ps.length)) ps.length hR (N.kids t') 0 ns [] q (by omega) (by simp; omega)
          rw [← N.hin t' hin] at hf
          refine ⟨hp N ns ps, .nx, _, _, ?_, ?_, hend q'⟩
          · simp [loC, hp, l1, hc]
          · simp [loB, hp, hix, isin_strs, hin, kd, kFor_ap]
            rw [show (rowD [] : List D) = [] from rfl] at hf
            simp [hf]
            rw [hpr _ _ []]
            simp
        | false =>
          refine ⟨hp N ns ps, .nx, _, _, ?_, ?_, hend q⟩
          · simp [loC, hp, l1, hc]
          · have := N.hout t' hin
            simp [loB, hp, hix, isin_strs, hin, kd, this]
            rw [hpr _ _ []]
            simp [rowD]
      · left
        have hlen : ns.length = ps.length := by omega
        refine ⟨hp N ns ps, ?_, rfl, ns, ps, r, q, rfl, rfl, hlen, h0, hg, hall, ?_⟩
        · have : ¬ ((ps.length : Int) < (ns.length : Int)) := by omega
          simp [loC, hp, l1, this, hlen]
        · omega)
    fuel (N.sz t) [some (N.e t), some kd, some (.ref 0), some (.ref 1), some (.int 0), none, none] [.lst [N.e t], .lst []] hs
    ⟨[t], [], none, none, rfl, rfl, by simp, by simp, by simp, rfl, fun i t hi => by simp at hi, fun x hx => by simp at hx; subst hx; exact hP⟩
  refine ⟨ns, ps, ?_, hlen, h0, hg, hall, hle⟩
  simp [d_laid_out, ex_whl]
  rw [show (D.tup (ks.map .str)) = kd from rfl, hw]
  simp
  exact fin_laid N ns ps
end
end PyD.K16

namespace PyD.K16
open PyD
variable {fuel : Nat}
def Sm.kids : Sm → List Sm
  | .mix _ a b => [a, b]
  | _ => []
def Sm.sz : Sm → Nat
  | .mix _ a b => a.sz + b.sz + 1
  | _ => 1
def Sm.hd : Sm → String
  | .num _ => "number"
  | .day => "day"
  | .cnt _ => "count"
  | .seen _ => "se\x61l"
  | .mix w _ _ => w.s
def Sm.rest : Sm → List D
  | .num i => [.int i]
  | .day => []
  | .cnt j => [.int j]
  | .seen j => [.int j]
  | .mix _ a b => [a.e, b.e]
abbrev ksM : List String := ["plus", "minus", "times", "least", "most"]
def smN : Nd Sm ksM where
  e := Sm.e
  kids := Sm.kids
  sz := Sm.sz
  hd := Sm.hd
  rest := Sm.rest
  he t := by cases t <;> rfl
  hin t h := by cases t <;> first | (exfalso; revert h; decide) | rfl | (exfalso; simp [Sm.hd] at h)
  hout t h := by
    cases t with
    | mix w a b => exfalso; cases w <;> simp [Sm.hd, Mx.s] at h
    | _ => rfl
  hc := Sm.closed
  hsz t := by cases t <;> simp [Sm.sz, Sm.kids] <;> omega
theorem leaf_ok (k : Nat) {p : Pl} (t : Sm) (h : t.ok p) (hk : t.kids = []) : tabF L fuel (k + 1) 4 [t.e, p.sight] [] = some (vE (t.val p), []) := by
  rw [tab_step (d := d_leaf_worth) rfl]
  cases t with
  | mix w a b => simp [Sm.kids] at hk
  | num i => simp [d_leaf_worth, b_leaf_worth, Sm.e, Sm.val, vE]; rfl
  | day => simp [d_leaf_worth, b_leaf_worth, Sm.e, Sm.val, vE, Pl.sight]; rfl
  | cnt j =>
    simp only [Sm.ok, Sm.okN] at h
    simp [d_leaf_worth, b_leaf_worth, Sm.e, Sm.val, vE, Pl.sight, ix_cs h]; rfl
  | seen j =>
    simp only [Sm.ok, Sm.okN] at h
    simp [d_leaf_worth, b_leaf_worth, Sm.e, Sm.val, Pl.sight, ix_ss h]
    exact fin_0 (by simp)
theorem c_leaf (k : Nat) {p : Pl} (t : Sm) (h : t.ok p) (hk : t.kids = []) (hp : AH) : callC (tabF L fuel (k + 1) 4) [t.e, p.sight] hp = some (vE (t.val p), hp) := callV (by simp) (leaf_ok k t h hk) (by simp)
theorem val_mix (p : Pl) (w : Mx) (a b : Sm) : (Sm.mix w a b).val p = opV w (a.val p) (b.val p) := by
  simp only [Sm.val]
  cases a.val p <;> cases b.val p <;> rfl
theorem range_rev (m : Nat) : ((List.range (m + 1)).map fun i => D.int (i : Nat)).reverse = .int (m : Nat) :: ((List.range m).map fun i => D.int (i : Nat)).reverse := by
  simp [List.range_succ]
def woB : Ss := .cons (.ite (.cmp .isin (.idx (.idx (.var 2) (.var 5)) (.int 0)) (.glob "MIXED" g_MIXED))
 (.cons (.setIx (.var 4) (.var 5) (.call 5 (.cons (.idx (.idx (.var 2) (.var 5)) (.int 0)) (.cons (.idx (.var 4) (.idx (.idx (.var 3) (.var 5)) (.int 0))) (.cons (.idx (.var 4) (.idx (.idx (.var 3) (.var 5)) (.int 1))) .nil))))) .nil)
 (.cons (.setIx (.var 4) (.var 5) (.call 4 (.cons (.idx (.var 2) (.var 5)) (.cons (.var 1) .nil)))) .nil)) .nil
theorem b_worth_eq : b_worth_of = .cons (.asg (.t (.cons (.v 2) (.cons (.v 3) .nil))) (.call 3 (.cons (.var 0) (.cons (.glob "MIXED" g_MIXED) .nil))))
 (.cons (.set 4 (.fm (.rep (.fv (.disp (.cons .non .nil))) (.blt .len (.cons (.var 2) .nil)))))
 (.cons (.for_ (.v 5) (.seq (.fv (.rev (.fv (.rng1 (.blt .len (.cons (.var 2) .nil))))))) woB)
 (.cons (.ret (.idx (.var 4) (.int 0))) .nil))) := rfl
theorem two_of {T : Type} {ns : List T} {js : List Nat} {a b : T} (h : js.map (fun j => ns[j]?) = [a, b].map some) : ∃ j0 j1, js = [j0, j1] ∧ ns[j0]? = some a ∧ ns[j1]? = some b := by
  rcases js with _ | ⟨j0, _ | ⟨j1, _ | ⟨j2, r⟩⟩⟩ <;> simp at h
  exact ⟨j0, j1, rfl, h.1, h.2⟩
theorem one_of {T : Type} {ns : List T} {js : List Nat} {a : T} (h : js.map (fun j => ns[j]?) = [a].map some) : ∃ j0, js = [j0] ∧ ns[j0]? = some a := by
  rcases js with _ | ⟨j0, _ | ⟨j1, r⟩⟩ <;> simp at h
  exact ⟨j0, rfl, h⟩
theorem worth_ok (k : Nat) {p : Pl} (t : Sm) (h : t.ok p) (hd : t.dep ≤ 4) (hf : t.sz < fuel) (hs : t.sz ≤ 1000) : tabF L fuel (k + 3) 6 [t.e, p.sight] [] = some (vE (t.val p), []) := by
  obtain ⟨ns, ps, el, hlen, h0, hg, hall, hle⟩ := laid_ok (fuel := fuel) (k + 1) smN t hf hs (fun x => x.ok p ∧ x.dep ≤ 4) ⟨h, hd⟩ (fun x hx c hc => by
    cases x with
    | mix w a b =>
      simp only [Sm.ok, Sm.okN, Sm.dep] at hx
      simp only [smN, Sm.kids, List.mem_cons, List.mem_nil_iff, or_false] at hc
      rcases hc with rfl | rfl
      · exact ⟨hx.1.1, by omega⟩
      · exact ⟨hx.1.2, by omega⟩
    | _ => simp [smN, Sm.kids] at hc) rfl
  have hle : ns.length ≤ 1000 := Nat.le_trans hle hs
  have cl : callC (tabF L fuel (k + 2) 3) [t.e, g_MIXED] [] = some (.tup [.lst (ns.map Sm.e), .lst (ps.map fun js => .lst (rowD js))], []) :=
    callV (by simp) el (by simp [closeds_map _ Sm.closed, closeds_map _ (fun js => show closed (.lst (rowD js)) = true by simp)])
  rw [tab_step (d := d_worth_of) rfl]
  show (exs (tabF L fuel (k + 2)) fuel b_worth_of _ []).bind (kRun false 0) = _
  rw [b_worth_eq]
  obtain ⟨f, σ', h', hw, rfl, ds, q, rfl, rfl, hd0⟩ := for_ok (tg := .v 5) (len := ns.length) (b := exs (tabF L fuel (k + 2)) fuel woB)
    (fun xs i σ h => ∃ m ds q, m ≤ ns.length ∧ xs = ((List.range m).map fun i => D.int (i : Nat)).reverse ∧ σ = [some t.e, some p.sight, some (.lst (ns.map Sm.e)), some (.lst (ps.map fun js => .lst (rowD js))), some (.ref 0), q] ∧ h = [.lst ds] ∧ ds.length = ns.length ∧ ∀ i x, m ≤ i → ns[i]? = some x → ds[i]? = some (vE (x.val p)))
    (fun f σ h => f = .nx ∧ ∃ ds q, σ = [some t.e, some p.sight, some (.lst (ns.map Sm.e)), some (.lst (ps.map fun js => .lst (rowD js))), some (.ref 0), q] ∧ h = [.lst ds] ∧ ds[0]? = some (vE (t.val p)))
    (fun i σ h ⟨m, ds, q, hm, hx, e1, e2, hl, hv⟩ => by
      have hm0 : m = 0 := by
        have := congrArg List.length hx
        simp at this; omega
      subst hm0
      exact ⟨rfl, ds, q, e1, e2, hv 0 t (Nat.le_refl _) h0⟩)
    (fun x xs i σ h ⟨m, ds, q, hm, hx, e1, e2, hl, hv⟩ => by
      subst e1; subst e2
      cases m with
      | zero => simp at hx
      | succ m =>
        rw [range_rev, List.cons.injEq] at hx
        obtain ⟨rfl, rfl⟩ := hx
        refine ⟨_, rfl, ?_⟩
        have hx : ns[m]? = some ns[m] := List.getElem?_eq_getElem (by omega)
        generalize ns[m] = x at hx
        have hix : ∀ H, index (.lst (ns.map Sm.e)) (.int (m : Nat)) H = some x.e := fun H => index_at rfl (by simp [hx])
        have hpl := place_nat (n := ds.length) (m := m) (by omega)
        have hsx : ∀ σ d, kSx3 σ d (.ref 0) (.int (m : Nat), [.lst ds]) = some (.nx, σ, [.lst (ds.set m d)]) := fun σ d => kSx3_ap (n := 0) (h := [.lst ds]) rfl hpl
        obtain ⟨hxok, hxd⟩ := hall x (List.mem_of_getElem? hx)
        refine ⟨.nx, [some t.e, some p.sight, some (.lst (ns.map Sm.e)), some (.lst (ps.map fun js => .lst (rowD js))), some (.ref 0), some (.int (m : Nat))], [.lst (ds.set m (vE (x.val p)))], ?_, m, _, _, by omega, rfl, rfl, rfl, by simp [hl], fun j y hj hy => ?_⟩
        · cases x with
          | mix w a b =>
            obtain ⟨js, ej, ejs, hjs⟩ := hg m _ (by omega) hx
            obtain ⟨j0, j1, rfl, ea, eb⟩ := two_of ejs
            have hpx : ∀ H, index (.lst (ps.map fun js => .lst (rowD js))) (.int (m : Nat)) H = some (.lst [.int (j0 : Nat), .int (j1 : Nat)]) := fun H => index_at rfl (by simp [ej, rowD])
            have i0 : index (.ref 0) (.int (j0 : Nat)) [.lst ds] = some (vE (a.val p)) := index_at (items_ref rfl) (hv j0 a (hjs j0 (by simp)) ea)
            have i1 : index (.ref 0) (.int (j1 : Nat)) [.lst ds] = some (vE (b.val p)) := index_at (items_ref rfl) (hv j1 b (hjs j1 (by simp)) eb)
            have hin : ∀ H, cmpop .isin (.str w.s) g_MIXED H = some true := fun H => by cases w <;> rfl
            have hc := c_mixed (fuel := fuel) (k + 1) w (a.val p) (b.val p) [.lst ds]
            simp only [Sm.e] at hix
            simp [woB, hix, hin, hpx, i0, i1, hc, val_mix, hsx]
          | _ =>
            have hc := c_leaf (fuel := fuel) (k + 1) _ hxok rfl [.lst ds]
            have hc' := hc
            simp only [Sm.e] at hix hc
            have hin : ∀ H, cmpop .isin (.str "number") g_MIXED H = some false := fun H => rfl
            have hin2 : ∀ H, cmpop .isin (.str "day") g_MIXED H = some false := fun H => rfl
            have hin3 : ∀ H, cmpop .isin (.str "count") g_MIXED H = some false := fun H => rfl
            have hin4 : ∀ H, cmpop .isin (.str "se\x61l") g_MIXED H = some false := fun H => rfl
            simp [woB, hix, hin, hin2, hin3, hin4, hc, hsx]
        · by_cases hjm : j = m
          · subst hjm
            rw [hx] at hy; cases hy
            rw [List.getElem?_set_self (by omega)]
          · rw [List.getElem?_set_ne (Ne.symm hjm)]
            exact hv j y (by omega) hy)
    ((List.range ns.length).map fun i => D.int (i : Nat)).reverse 0 [some t.e, some p.sight, some (.lst (ns.map Sm.e)), some (.lst (ps.map fun js => .lst (rowD js))), some (.ref 0), none] [.lst (List.replicate ns.length .non)]
    ⟨ns.length, _, none, Nat.le_refl _, rfl, rfl, rfl, by simp, fun i x hi hx => by rw [List.getElem?_eq_none (by omega)] at hx; cases hx⟩
  have hrep : kRep2 (.lst [.non]) (.int (ns.length : Nat), []) = some (List.replicate ns.length .non, []) := kRep2_one (by simp [lim]; omega)
  have hrng : rng 0 (ns.length : Nat) = some ((List.range ns.length).map fun i => .int (i : Nat)) := rng_n (by omega)
  have hi : index (.ref 0) (.int 0) [.lst ds] = some (vE (t.val p)) := index_at (n := 0) (items_ref rfl) hd0
  simp [d_worth_of, cl, hrep, hrng, kFor_ap]
  rw [hw]
  simp [hi]
  exact fin_v (by simp)
end PyD.K16

namespace PyD.K16
open PyD
variable {fuel : Nat}
/-! ### conditions -/
inductive Wn where
  | yes | cmp (less : Bool) (a b : Sm) | neg (c : Wn) | two (isAnd : Bool) (c d : Wn)
def cw (less : Bool) : String := if less then "less" else "same"
def tw (isAnd : Bool) : String := if isAnd then "and" else "or"
def Wn.e : Wn → D
  | .yes => .tup [.str "yes"]
  | .cmp l a b => .tup [.str (cw l), a.e, b.e]
  | .neg c => .tup [.str "not", c.e]
  | .two i c d => .tup [.str (tw i), c.e, d.e]
@[simp] theorem Wn.closed : ∀ t : Wn, closed t.e = true
  | .yes => rfl
  | .cmp l a b => by simp [Wn.e]
  | .neg c => by simp [Wn.e, Wn.closed c]
  | .two i c d => by simp [Wn.e, Wn.closed c, Wn.closed d]
def cmpV (less : Bool) : Option Int → Option Int → Bool
  | some x, some y => if less then decide (x < y) else x == y
  | _, _ => false
def Wn.val (p : Pl) : Wn → Bool
  | .yes => true
  | .cmp l a b => cmpV l (a.val p) (b.val p)
  | .neg c => !c.val p
  | .two i c d => if i then c.val p && d.val p else c.val p || d.val p
def Sm.fine (nc ns : Nat) (t : Sm) : Prop := t.okN nc ns ∧ t.dep ≤ 4 ∧ t.sz ≤ 99
def Wn.okN (nc ns : Nat) : Wn → Prop
  | .yes => True
  | .cmp _ a b => a.fine nc ns ∧ b.fine nc ns
  | .neg c => c.okN nc ns
  | .two _ c d => c.okN nc ns ∧ d.okN nc ns
abbrev Wn.ok (p : Pl) (t : Wn) : Prop := t.okN p.cs.length p.ss.length
def Wn.sz : Wn → Nat
  | .neg c => c.sz + 1
  | .two _ c d => c.sz + d.sz + 1
  | _ => 1
def Wn.dep : Wn → Nat
  | .neg c => c.dep + 1
  | .two _ c d => max c.dep d.dep + 1
  | _ => 0
def Wn.kids : Wn → List Wn
  | .neg c => [c]
  | .two _ c d => [c, d]
  | _ => []
def Wn.hd : Wn → String
  | .yes => "yes"
  | .cmp l _ _ => cw l
  | .neg _ => "not"
  | .two i _ _ => tw i
def Wn.rest : Wn → List D
  | .yes => []
  | .cmp _ a b => [a.e, b.e]
  | .neg c => [c.e]
  | .two _ c d => [c.e, d.e]
abbrev ksW : List String := ["not", "and", "or"]
def wnN : Nd Wn ksW where
  e := Wn.e
  kids := Wn.kids
  sz := Wn.sz
  hd := Wn.hd
  rest := Wn.rest
  he t := by cases t <;> rfl
  hin t h := by
    cases t with
    | yes => exfalso; simp [Wn.hd] at h
    | cmp l a b => exfalso; cases l <;> simp [Wn.hd, cw] at h
    | neg c => rfl
    | two i c d => rfl
  hout t h := by
    cases t with
    | yes => rfl
    | cmp l a b => rfl
    | neg c => exfalso; simp [Wn.hd] at h
    | two i c d => exfalso; cases i <;> simp [Wn.hd, tw] at h
  hc := Wn.closed
  hsz t := by cases t <;> simp [Wn.sz, Wn.kids] <;> omega
theorem c_worth (k : Nat) {p : Pl} (t : Sm) (h : t.fine p.cs.length p.ss.length) (hf : 100 ≤ fuel) (H : AH) : callC (tabF L fuel (k + 3) 6) [t.e, p.sight] H = some (vE (t.val p), H) :=
  callV (by simp) (worth_ok k t h.1 h.2.1 (by have := h.2.2; omega) (by have := h.2.2; omega)) (by simp)
def Pl.place (p : Pl) (rest : List D) : D := .tup (.int p.day :: p.eC :: rest)
theorem c_sum (k : Nat) {p : Pl} {rest : List D} (hr : closeds rest = true) (t : Sm) (h : t.fine p.cs.length p.ss.length) (H : AH) : callC (tabF L fuel (k + 5) 33) [t.e, p.place rest, p.eS] H = some (vE (t.val p), H) := by
  have hd := h.2.1
  have e : k + 5 = (k + 4 - t.dep) + t.dep + 1 := by omega
  rw [e]
  exact callV (by simp [Pl.place, hr]) (sum_ok p rest hr t _ h.1) (by simp)
theorem compares_ok (k : Nat) {p : Pl} (t : Wn) (h : t.ok p) (hk : t.kids = []) (hf : 100 ≤ fuel) : tabF L fuel (k + 4) 7 [t.e, p.sight] [] = some (.bl (t.val p), []) := by
  rw [tab_step (d := d_compares) rfl]
  cases t with
  | yes => simp [d_compares, b_compares, Wn.e, Wn.val]; rfl
  | neg c => simp [Wn.kids] at hk
  | two i c d => simp [Wn.kids] at hk
  | cmp l a b =>
    have ha := c_worth k a h.1 hf []
    have hb := c_worth k b h.2 hf []
    simp only [Wn.val]
    generalize a.val p = va at ha
    generalize b.val p = vb at hb
    cases va with
    | none => cases l <;> (simp [d_compares, b_compares, Wn.e, cw, ha, hb, vE, cmpV]; rfl)
    | some x =>
      cases vb with
      | none => cases l <;> (simp [d_compares, b_compares, Wn.e, cw, ha, hb, vE, cmpV]; rfl)
      | some y => cases l <;> (simp [d_compares, b_compares, Wn.e, cw, ha, hb, vE, cmpV]; rfl)
theorem c_compares (k : Nat) {p : Pl} (t : Wn) (h : t.ok p) (hk : t.kids = []) (hf : 100 ≤ fuel) (H : AH) : callC (tabF L fuel (k + 4) 7) [t.e, p.sight] H = some (.bl (t.val p), H) :=
  callV (by simp) (compares_ok k t h hk hf) (by simp)
def hoB : Ss := (.cons (.par2 6 7 (.idx (.idx (.var 2) (.var 5)) (.int 0)) (.comp (.idx (.var 4) (.var 8)) (.v 8) (.seq (.idx (.var 3) (.var 5))) .no [8]))
 (.cons (.ite (.cmp .eq (.var 6) (.str "not"))
 (.cons (.setIx (.var 4) (.var 5) (.not (.idx (.var 7) (.int 0))))
 .nil)
 (.cons (.ite (.cmp .eq (.var 6) (.str "and"))
 (.cons (.setIx (.var 4) (.var 5) (.bop true (.cons (.idx (.var 7) (.int 0)) (.cons (.idx (.var 7) (.int 1)) .nil))))
 .nil)
 (.cons (.ite (.cmp .eq (.var 6) (.str "or"))
 (.cons (.setIx (.var 4) (.var 5) (.bop false (.cons (.idx (.var 7) (.int 0)) (.cons (.idx (.var 7) (.int 1)) .nil))))
 .nil)
 (.cons (.setIx (.var 4) (.var 5) (.call 7 (.cons (.idx (.var 2) (.var 5)) (.cons (.var 1) .nil))))
 .nil))
 .nil))
 .nil))
 .nil))
theorem b_holds_eq : b_holds = .cons (.asg (.t (.cons (.v 2) (.cons (.v 3) .nil))) (.call 3 (.cons (.var 0) (.cons (.glob "JOINED" g_JOINED) .nil))))
 (.cons (.set 4 (.fm (.rep (.fv (.disp (.cons (.bl false) .nil))) (.blt .len (.cons (.var 2) .nil)))))
 (.cons (.for_ (.v 5) (.seq (.fv (.rev (.fv (.rng1 (.blt .len (.cons (.var 2) .nil))))))) hoB)
 (.cons (.ret (.idx (.var 4) (.int 0))) .nil))) := rfl
theorem holds_ok (k : Nat) {p : Pl} (t : Wn) (h : t.ok p) (hf : 100 ≤ fuel) (hs : t.sz ≤ 99) : tabF L fuel (k + 5) 8 [t.e, p.sight] [] = some (.bl (t.val p), []) := by
  obtain ⟨ns, ps, el, hlen, h0, hg, hall, hle⟩ := laid_ok (fuel := fuel) (k + 3) wnN t (by show t.sz < fuel; omega) (by show t.sz ≤ 1000; omega) (fun x => x.ok p) h (fun x hx c hc => by
    cases x with
    | neg d =>
      simp only [wnN, Wn.kids, List.mem_singleton] at hc
      subst hc; exact hx
    | two i a b =>
      simp only [wnN, Wn.kids, List.mem_cons, List.mem_nil_iff, or_false] at hc
      rcases hc with rfl | rfl
      · exact hx.1
      · exact hx.2
    | _ => simp [wnN, Wn.kids] at hc) rfl
  have hle : ns.length ≤ 99 := Nat.le_trans hle hs
  have cl : callC (tabF L fuel (k + 4) 3) [t.e, g_JOINED] [] = some (.tup [.lst (ns.map Wn.e), .lst (ps.map fun js => .lst (rowD js))], []) :=
    callV (by simp) el (by simp [closeds_map _ Wn.closed, closeds_map _ (fun js => show closed (.lst (rowD js)) = true by simp)])
  rw [tab_step (d := d_holds) rfl]
  show (exs (tabF L fuel (k + 4)) fuel b_holds _ []).bind (kRun false 0) = _
  rw [b_holds_eq]
  obtain ⟨f, σ', h', hw, rfl, ds, q, q1, q2, rfl, rfl, hd0⟩ := for_ok (tg := .v 5) (len := ns.length) (b := exs (tabF L fuel (k + 4)) fuel hoB)
    (fun xs i σ h => ∃ m ds q q1 q2, m ≤ ns.length ∧ xs = ((List.range m).map fun i => D.int (i : Nat)).reverse ∧ σ = [some t.e, some p.sight, some (.lst (ns.map Wn.e)), some (.lst (ps.map fun js => .lst (rowD js))), some (.ref 0), q, q1, q2, none] ∧ h = [.lst ds] ∧ ds.length = ns.length ∧ ∀ i x, m ≤ i → ns[i]? = some x → ds[i]? = some (.bl (x.val p)))
    (fun f σ h => f = .nx ∧ ∃ ds q q1 q2, σ = [some t.e, some p.sight, some (.lst (ns.map Wn.e)), some (.lst (ps.map fun js => .lst (rowD js))), some (.ref 0), q, q1, q2, none] ∧ h = [.lst ds] ∧ ds[0]? = some (.bl (t.val p)))
    (fun i σ h ⟨m, ds, q, q1, q2, hm, hx, e1, e2, hl, hv⟩ => by
      have hm0 : m = 0 := by
        have := congrArg List.length hx
        simp at this; omega
      subst hm0
      exact ⟨rfl, ds, q, q1, q2, e1, e2, hv 0 t (Nat.le_refl _) h0⟩)
    (fun x xs i σ h ⟨m, ds, q, q1, q2, hm, hx, e1, e2, hl, hv⟩ => by
      subst e1; subst e2
      cases m with
      | zero => simp at hx
      | succ m =>
        rw [range_rev, List.cons.injEq] at hx
        obtain ⟨rfl, rfl⟩ := hx
        refine ⟨_, rfl, ?_⟩
        have hx : ns[m]? = some ns[m] := List.getElem?_eq_getElem (by omega)
        generalize ns[m] = x at hx
        have hix : ∀ H, index (.lst (ns.map Wn.e)) (.int (m : Nat)) H = some x.e := fun H => index_at rfl (by simp [hx])
        have hpl := place_nat (n := ds.length) (m := m) (by omega)
        have hsx : ∀ σ d, kSx3 σ d (.ref 0) (.int (m : Nat), [.lst ds]) = some (.nx, σ, [.lst (ds.set m d)]) := fun σ d => kSx3_ap (n := 0) (h := [.lst ds]) rfl hpl
        have hxok := hall x (List.mem_of_getElem? hx)
        have hset : ∀ j y, m ≤ j → ns[j]? = some y → (ds.set m (.bl (x.val p)))[j]? = some (.bl (y.val p)) := fun j y hj hy => by
          by_cases hjm : j = m
          · subst hjm
            rw [hx] at hy; cases hy
            rw [List.getElem?_set_self (by omega)]
          · rw [List.getElem?_set_ne (Ne.symm hjm)]
            exact hv j y (by omega) hy
        obtain ⟨js, ej, ejs, hjs⟩ := hg m _ (by omega) hx
        have hpx : ∀ H, index (.lst (ps.map fun js => .lst (rowD js))) (.int (m : Nat)) H = some (.lst (rowD js)) := fun H => index_at rfl (by simp [ej])
        have fin : ∀ σ' q1 q2, exs (tabF L fuel (k + 4)) fuel hoB [some t.e, some p.sight, some (.lst (ns.map Wn.e)), some (.lst (ps.map fun js => .lst (rowD js))), some (.ref 0), some (.int (m : Nat)), σ', q2, none] [.lst ds] = q1 → q1 = q1 := fun _ _ _ _ => rfl
        cases x with
        | neg c =>
          obtain ⟨j0, rfl, ea⟩ := one_of ejs
          have i0 : index (.ref 0) (.int (j0 : Nat)) [.lst ds] = some (.bl (c.val p)) := index_at (items_ref rfl) (hv j0 c (hjs j0 (by simp)) ea)
          simp only [Wn.e] at hix
          refine ⟨.nx, [some t.e, some p.sight, some (.lst (ns.map Wn.e)), some (.lst (ps.map fun js => .lst (rowD js))), some (.ref 0), some (.int (m : Nat)), some (.str "not"), some (.lst [.bl (c.val p)]), none], [.lst (ds.set m (.bl (!c.val p)))], ?_, m, _, _, _, _, by omega, rfl, rfl, rfl, by simp [hl], hset⟩
          have hpx : ∀ H, index (.lst (ps.map fun js => .lst (rowD js))) (.int (m : Nat)) H = some (.lst [.int (j0 : Nat)]) := hpx
          simp [hoB, hix, hpx, kComp_ap, lim, i0, hsx]
        | two b c d =>
          obtain ⟨j0, j1, rfl, ea, eb⟩ := two_of ejs
          have i0 : index (.ref 0) (.int (j0 : Nat)) [.lst ds] = some (.bl (c.val p)) := index_at (items_ref rfl) (hv j0 c (hjs j0 (by simp)) ea)
          have i1 : index (.ref 0) (.int (j1 : Nat)) [.lst ds] = some (.bl (d.val p)) := index_at (items_ref rfl) (hv j1 d (hjs j1 (by simp)) eb)
          simp only [Wn.e] at hix
          refine ⟨.nx, [some t.e, some p.sight, some (.lst (ns.map Wn.e)), some (.lst (ps.map fun js => .lst (rowD js))), some (.ref 0), some (.int (m : Nat)), some (.str (tw b)), some (.lst [.bl (c.val p), .bl (d.val p)]), none], [.lst (ds.set m (.bl (if b then c.val p && d.val p else c.val p || d.val p)))], ?_, m, _, _, _, _, by omega, rfl, rfl, rfl, by simp [hl], hset⟩
          have hpx : ∀ H, index (.lst (ps.map fun js => .lst (rowD js))) (.int (m : Nat)) H = some (.lst [.int (j0 : Nat), .int (j1 : Nat)]) := hpx
          generalize c.val p = vc at i0 ⊢
          generalize d.val p = vd at i1 ⊢
          cases b <;> cases vc <;> cases vd <;> simp [hoB, hix, hpx, kComp_ap, lim, i0, i1, hsx, tw]
        | yes =>
          have e0 : js = [] := by simpa [wnN, Wn.kids] using ejs
          subst e0
          have hc := c_compares (fuel := fuel) k _ hxok rfl hf [.lst ds]
          simp only [Wn.e] at hix hc
          refine ⟨.nx, [some t.e, some p.sight, some (.lst (ns.map Wn.e)), some (.lst (ps.map fun js => .lst (rowD js))), some (.ref 0), some (.int (m : Nat)), some (.str "yes"), some (.lst []), none], [.lst (ds.set m (.bl (Wn.yes.val p)))], ?_, m, _, _, _, _, by omega, rfl, rfl, rfl, by simp [hl], hset⟩
          have hpx : ∀ H, index (.lst (ps.map fun js => .lst (rowD js))) (.int (m : Nat)) H = some (.lst []) := hpx
          simp [hoB, hix, hpx, kComp_ap, lim, hsx, hc]
        | cmp l a b =>
          have e0 : js = [] := by simpa [wnN, Wn.kids] using ejs
          subst e0
          have hc := c_compares (fuel := fuel) k _ hxok rfl hf [.lst ds]
          simp only [Wn.e] at hix hc
          refine ⟨.nx, [some t.e, some p.sight, some (.lst (ns.map Wn.e)), some (.lst (ps.map fun js => .lst (rowD js))), some (.ref 0), some (.int (m : Nat)), some (.str (cw l)), some (.lst []), none], [.lst (ds.set m (.bl ((Wn.cmp l a b).val p)))], ?_, m, _, _, _, _, by omega, rfl, rfl, rfl, by simp [hl], hset⟩
          have hpx : ∀ H, index (.lst (ps.map fun js => .lst (rowD js))) (.int (m : Nat)) H = some (.lst []) := hpx
          cases l <;> (simp only [cw, if_true, Bool.false_eq_true, if_false] at hix hc ⊢; simp [hoB, hix, hpx, kComp_ap, lim, hsx, hc]))
    ((List.range ns.length).map fun i => D.int (i : Nat)).reverse 0 [some t.e, some p.sight, some (.lst (ns.map Wn.e)), some (.lst (ps.map fun js => .lst (rowD js))), some (.ref 0), none, none, none, none] [.lst (List.replicate ns.length (.bl false))]
    ⟨ns.length, _, none, none, none, Nat.le_refl _, rfl, rfl, rfl, by simp, fun i x hi hx => by rw [List.getElem?_eq_none (by omega)] at hx; cases hx⟩
  have hrep : kRep2 (.lst [.bl false]) (.int (ns.length : Nat), []) = some (List.replicate ns.length (.bl false), []) := kRep2_one (by simp [lim]; omega)
  have hrng : rng 0 (ns.length : Nat) = some ((List.range ns.length).map fun i => .int (i : Nat)) := rng_n (by omega)
  have hi : index (.ref 0) (.int 0) [.lst ds] = some (.bl (t.val p)) := index_at (n := 0) (items_ref rfl) hd0
  simp [d_holds, cl, hrep, hrng, kFor_ap]
  rw [hw]
  simp [hi]
  exact fin_v (by simp)
/-! ### the direct reading of conditions -/
theorem lholds_ok {p : Pl} {rest : List D} (hr : closeds rest = true) : ∀ (t : Wn) (k : Nat), t.ok p → tabF L fuel (k + t.dep + 6) 34 [t.e, p.place rest, p.eS] [] = some (.bl (t.val p), [])
  | .yes, k, h => by
    rw [tab_step (d := d__law_holds) rfl]
    simp [d__law_holds, b__law_holds, Wn.e, Wn.val]; rfl
  | .neg c, k, h => by
    simp only [Wn.dep]
    have hc : callC (tabF L fuel (k + (c.dep + 1) + 5) 34) [c.e, p.place rest, p.eS] [] = some (.bl (c.val p), []) := by
      rw [show k + (c.dep + 1) + 5 = k + c.dep + 6 by omega]
      exact callV (by simp [Pl.place, hr]) (lholds_ok hr c k h) rfl
    rw [tab_step (d := d__law_holds) rfl]
    simp [d__law_holds, b__law_holds, Wn.e, Wn.val, hc]; rfl
  | .two i c d, k, h => by
    simp only [Wn.dep]
    have hc : callC (tabF L fuel (k + (max c.dep d.dep + 1) + 5) 34) [c.e, p.place rest, p.eS] [] = some (.bl (c.val p), []) := by
      rw [show k + (max c.dep d.dep + 1) + 5 = (k + max c.dep d.dep - c.dep) + c.dep + 6 by omega]
      exact callV (by simp [Pl.place, hr]) (lholds_ok hr c _ h.1) rfl
    have hd : callC (tabF L fuel (k + (max c.dep d.dep + 1) + 5) 34) [d.e, p.place rest, p.eS] [] = some (.bl (d.val p), []) := by
      rw [show k + (max c.dep d.dep + 1) + 5 = (k + max c.dep d.dep - d.dep) + d.dep + 6 by omega]
      exact callV (by simp [Pl.place, hr]) (lholds_ok hr d _ h.2) rfl
    rw [tab_step (d := d__law_holds) rfl]
    simp only [Wn.val]
    generalize c.val p = vc at *
    generalize d.val p = vd at *
    cases i <;> cases vc <;> cases vd <;> (simp [d__law_holds, b__law_holds, Wn.e, tw, hc, hd, isin_tup, flat, beqD]; rfl)
  | .cmp l a b, k, h => by
    have ha := c_sum (fuel := fuel) k hr a h.1 []
    have hb := c_sum (fuel := fuel) k hr b h.2 []
    simp only [Wn.dep, Nat.add_zero]
    rw [tab_step (d := d__law_holds) rfl]
    simp only [Wn.val]
    generalize a.val p = va at *
    generalize b.val p = vb at *
    cases va with
    | none => cases l <;> (simp [d__law_holds, b__law_holds, Wn.e, cw, ha, hb, isin_tup, flat, beqD, vE, cmpV]; rfl)
    | some x =>
      cases vb with
      | none => cases l <;> (simp [d__law_holds, b__law_holds, Wn.e, cw, ha, hb, isin_tup, flat, beqD, vE, cmpV]; rfl)
      | some y => cases l <;> (simp [d__law_holds, b__law_holds, Wn.e, cw, ha, hb, isin_tup, flat, beqD, vE, cmpV]; rfl)
end PyD.K16

namespace PyD.K16
open PyD
variable {fuel : Nat}
/-! ### deals, places -/
inductive Kd where
  | plain | ch (j : Nat) | op (j : Nat)
def Kd.e : Kd → D
  | .plain => .tup [.str "plain"]
  | .ch j => .tup [.str "chooses", .int j]
  | .op j => .tup [.str "opens", .int j]
def stE (s : Nat × Sm) : D := .tup [.int s.1, s.2.e]
structure Dd where
  name : String
  role : Nat
  kind : Kd
  when : Wn
  steps : List (Nat × Sm)
  times : Int
def Dd.e (d : Dd) : D := .tup [.str d.name, .int d.role, d.kind.e, d.when.e, .tup (d.steps.map stE), .int d.times]
inductive PK where
  | never | on (n : Int) | fin
def PK.e : PK → D
  | .never => .tup [.str "never"]
  | .on n => .tup [.str "by", .int n]
  | .fin => .tup [.str "end"]
structure Pr where
  role : Nat
  kind : PK
  when : Wn
def Pr.e (p : Pr) : D := .tup [.int p.role, p.kind.e, p.when.e]
structure Ct where
  name : String
  top : Int
def Ct.e (c : Ct) : D := .tup [.str c.name, .int c.top, .int 0]
structure Se where
  name : String
  owner : Nat
  top : Nat
def Se.e (s : Se) : D := .tup [.str s.name, .int s.owner, .int s.top]
structure Cl where
  name : String
  role : Nat
  inner : Nat
  handed : List Nat
  when : Wn
  ctr : Nat
  often : Int
def Cl.e (c : Cl) : D := .tup [.str c.name, .int c.role, .int c.inner, .tup (c.handed.map fun i : Nat => .int i), c.when.e, .int c.ctr, .int c.often]
structure Dl where
  name : String
  roles : List String
  days : Int
  cts : List Ct
  sls : List Se
  dds : List Dd
  cls : List Cl
  res : Sm
  prs : List Pr
def Dl.e (d : Dl) : D := .tup [.str d.name, .tup (d.roles.map .str), .int d.days, .tup (d.cts.map Ct.e), .tup (d.sls.map Se.e), .tup (d.dds.map Dd.e), .tup (d.cls.map Cl.e), d.res.e, .tup (d.prs.map Pr.e)]
@[simp] theorem Kd.cl (k : Kd) : closed k.e = true := by cases k <;> rfl
@[simp] theorem PK.cl (k : PK) : closed k.e = true := by cases k <;> rfl
@[simp] theorem stE_cl (s) : closed (stE s) = true := by simp [stE]
@[simp] theorem Dd.cl (d : Dd) : closed d.e = true := by simp [Dd.e, closeds_map stE stE_cl]
@[simp] theorem Pr.cl (d : Pr) : closed d.e = true := by simp [Pr.e]
@[simp] theorem Ct.cl (d : Ct) : closed d.e = true := rfl
@[simp] theorem Se.cl (d : Se) : closed d.e = true := rfl
@[simp] theorem Cl.cl (c : Cl) : closed c.e = true := by simp [Cl.e, closeds_map (fun i : Nat => D.int i) (fun _ => rfl)]
@[simp] theorem Cls_cl (l : List Cl) : closeds (l.map Cl.e) = true := closeds_map _ Cl.cl l
@[simp] theorem str_cl (l : List String) : closeds (l.map D.str) = true := closeds_map D.str (fun _ => rfl) l
@[simp] theorem Cts_cl (l : List Ct) : closeds (l.map Ct.e) = true := closeds_map _ Ct.cl l
@[simp] theorem Ses_cl (l : List Se) : closeds (l.map Se.e) = true := closeds_map _ Se.cl l
@[simp] theorem Dds_cl (l : List Dd) : closeds (l.map Dd.e) = true := closeds_map _ Dd.cl l
@[simp] theorem Prs_cl (l : List Pr) : closeds (l.map Pr.e) = true := closeds_map _ Pr.cl l
@[simp] theorem sts_cl (l) : closeds (List.map stE l) = true := closeds_map _ stE_cl l
@[simp] theorem ints_cl (l : List Int) : closeds (l.map D.int) = true := closeds_map D.int (fun _ => rfl) l
@[simp] theorem bls_cl (l : List Bool) : closeds (l.map D.bl) = true := closeds_map D.bl (fun _ => rfl) l
@[simp] theorem vEs_cl (l) : closeds (List.map vE l) = true := closeds_map _ vE_closed l
@[simp] theorem Dl.cl (d : Dl) : closed d.e = true := by simp [Dl.e]
def Wn.fine (nc ns : Nat) (t : Wn) : Prop := t.okN nc ns ∧ t.dep ≤ 4 ∧ t.sz ≤ 99
def Kd.ok (ns : Nat) : Kd → Prop
  | .plain => True
  | .ch j => j < ns
  | .op j => j < ns
structure Dd.ok (nc ns : Nat) (x : Dd) : Prop where
  w : x.when.fine nc ns
  s : ∀ s ∈ x.steps, s.1 < nc ∧ s.2.fine nc ns
  k : x.kind.ok ns
  t : x.times = 1
structure Cl.ok (nc ns nr : Nat) (x : Cl) : Prop where
  w : x.when.fine nc ns
  c : x.ctr < nc
  h : ∀ r ∈ x.handed, r < nr
  r : x.role < nr
structure Dl.ok (d : Dl) : Prop where
  dd : ∀ x ∈ d.dds, x.ok d.cts.length d.sls.length
  pr : ∀ x ∈ d.prs, x.when.fine d.cts.length d.sls.length
  nd : d.dds.length ≤ 100
  nr : d.roles.length ≤ 100
  nc : d.cts.length ≤ 100
  ns : d.sls.length ≤ 100
  np : d.prs.length ≤ 100
  tp : ∀ s ∈ d.sls, s.top ≤ 100
  nc1 : 1 ≤ d.cts.length
  nr1 : 1 ≤ d.roles.length
  rs : d.res.fine d.cts.length d.sls.length
  dy : 0 ≤ d.days
  dy2 : d.days ≤ 9
  cl : ∀ c ∈ d.cls, c.ok d.cts.length d.sls.length d.roles.length
  nl : d.cls.length ≤ 100
structure Pc where
  day : Int
  cs : List Int
  ss : List (Option (Bool × Int))
  dn : List Int
  ps : List Bool
def sE : Option (Bool × Int) → D
  | none => .non
  | some (o, w) => .tup [.str (if o then "open" else "shut"), .int w]
@[simp] theorem sE_cl (s) : closed (sE s) = true := by rcases s with _ | ⟨o, w⟩ <;> rfl
@[simp] theorem sEs_cl (l) : closeds (List.map sE l) = true := closeds_map _ sE_cl l
def Pc.rest (p : Pc) : List D := [.tup (p.ss.map sE), .tup (p.dn.map .int), .tup (p.ps.map .bl)]
def Pc.e (p : Pc) : D := .tup [.int p.day, .tup (p.cs.map .int), .tup (p.ss.map sE), .tup (p.dn.map .int), .tup (p.ps.map .bl)]
@[simp] theorem Pc.cl (p : Pc) : closed p.e = true := by simp [Pc.e]
@[simp] theorem Pc.rcl (p : Pc) : closeds p.rest = true := by simp [Pc.rest]
structure Pc.ok (d : Dl) (p : Pc) : Prop where
  c : p.cs.length = d.cts.length
  s : p.ss.length = d.sls.length
  n : p.dn.length = d.dds.length + d.cls.length
  dy : p.day ≤ d.days
  wr : ∀ o w, some (o, w) ∈ p.ss → 0 ≤ w
  p : p.ps.length = d.roles.length
def see (r : Option Nat) (s : Se) : Option (Bool × Int) → Option Int
  | none => none
  | some (o, w) => if o || r == some s.owner then some w else none
def Pc.view (d : Dl) (p : Pc) (r : Option Nat) : Pl := ⟨p.day, p.cs, List.zipWith (see r) d.sls p.ss⟩
theorem view_place (d : Dl) (p : Pc) (r) : (p.view d r).place p.rest = p.e := rfl
theorem view_ss {d : Dl} {p : Pc} (h : p.ok d) (r) : (p.view d r).ss.length = d.sls.length := by simp [Pc.view, h.s]
theorem view_cs {d : Dl} {p : Pc} (h : p.ok d) (r) : (p.view d r).cs.length = d.cts.length := h.c
def roleD : Option Nat → D
  | none => .non
  | some r => .int r
@[simp] theorem role_cl (r) : closed (roleD r) = true := by cases r <;> rfl
theorem view_at {d : Dl} {p : Pc} {r : Option Nat} {m : Nat} {s' : Se} {s} (h1 : d.sls[m]? = some s') (h2 : p.ss[m]? = some s) : (p.view d r).ss[m]? = some (see r s' s) := by
  simp [Pc.view, List.getElem?_zipWith, h1, h2]
/-! ### who sees what: the direct reading -/
def seB : Ss := (.cons (.set 6 (.bop true (.cons (.cmp .isnot (.var 5) .non) (.cons (.bop false (.cons (.cmp .eq (.idx (.var 5) (.int 0)) (.str "open")) (.cons (.bop true (.cons (.cmp .isnot (.var 2) .non) (.cons (.cmp .eq (.idx (.idx (.idx (.var 0) (.int 4)) (.var 4)) (.int 1)) (.var 2)) .nil))) .nil))) .nil))))
 (.cons (.expr (.app (.var 3) (.ite (.var 6) (.idx (.var 5) (.int 1)) .non)))
 .nil))
theorem b_sees_eq : b__law_sees = .cons (.set 3 (.fm (.disp .nil))) (.cons (.for_ (.t (.cons (.v 4) (.cons (.v 5) .nil))) (.enum (.idx (.var 1) (.int 2))) seB) (.cons (.ret (.blt .tuple (.cons (.var 3) .nil))) .nil)) := rfl
theorem sees_ok {k : Nat} (hk : 1 ≤ k) {d : Dl} (hd : d.ok) {p : Pc} (hp : p.ok d) (r : Option Nat) : tabF L fuel k 35 [d.e, p.e, roleD r] [] = some ((p.view d r).eS, []) := by
  obtain ⟨k, rfl⟩ : ∃ m, k = m + 1 := ⟨k - 1, by omega⟩
  rw [tab_step (d := d__law_sees) rfl]
  show (exs (tabF L fuel k) fuel b__law_sees _ []).bind (kRun false 0) = _
  rw [b_sees_eq]
  obtain ⟨f, σ', h', hw, rfl, q4, q5, q6, rfl, rfl⟩ := for_ix (tg := .t (.cons (.v 4) (.cons (.v 5) .nil))) (len := ((p.ss.map sE).mapIdx fun i d => D.tup [.int i, d]).length) (b := exs (tabF L fuel k) fuel seB) ((p.ss.map sE).mapIdx fun i d => D.tup [.int i, d])
    (fun m σ h => ∃ q4 q5 q6, σ = [some d.e, some p.e, some (roleD r), some (.ref 0), q4, q5, q6] ∧ h = [.lst (((p.view d r).ss.take m).map vE)])
    (fun f σ h => f = .nx ∧ ∃ q4 q5 q6, σ = [some d.e, some p.e, some (roleD r), some (.ref 0), q4, q5, q6] ∧ h = [.lst ((p.view d r).ss.map vE)])
    (fun σ h ⟨q4, q5, q6, e1, e2⟩ => ⟨rfl, q4, q5, q6, e1, by rw [e2, List.take_of_length_le]; simp [view_ss hp, hp.s]⟩)
    (fun m x σ h hx ⟨q4, q5, q6, e1, e2⟩ => by
      subst e1; subst e2
      rw [List.getElem?_mapIdx, List.getElem?_map] at hx
      cases hs : p.ss[m]? with
      | none => simp [hs] at hx
      | some s =>
        simp only [hs, Option.map_some, Option.some.injEq] at hx
        subst hx
        have hm : m < d.sls.length := by rw [← hp.s]; exact (List.getElem?_eq_some_iff.mp hs).1
        have hs' : d.sls[m]? = some d.sls[m] := List.getElem?_eq_getElem hm
        generalize d.sls[m] = s' at hs'
        have hv := view_at (r := r) hs' hs
        have hlen : (((p.view d r).ss.take m).map vE).length < lim := by simp [lim]; have := hd.ns; omega
        have hz : ((p.view d r).ss.take (m + 1)).map vE = ((p.view d r).ss.take m).map vE ++ [vE (see r s' s)] := by rw [List.take_add_one, hv]; simp
        have hix : ∀ H, index (.tup (d.sls.map Se.e)) (.int (m : Nat)) H = some s'.e := fun H => index_at rfl (by simp [hs'])
        refine ⟨[some d.e, some p.e, some (roleD r), some (.ref 0), some (.int (m : Nat)), some (sE s), q6], by simp [put, puts], .nx, _, _, ?_, some (.int (m : Nat)), some (sE s), some (.bl (see r s' s).isSome), rfl, rfl⟩
        rw [hz]
        generalize ((p.view d r).ss.take m).map vE = A at hlen
        have a0 : kApp2 (.ref 0) (.non, [.lst A]) = some (.non, [.lst (A ++ [.non])]) := app_r0 hlen
        have a1 : ∀ w, kApp2 (.ref 0) (.int w, [.lst A]) = some (.non, [.lst (A ++ [.int w])]) := fun w => app_r0 hlen
        rcases s with _ | ⟨o, w⟩
        · simp [seB, sE, see, vE, a0]
        · cases o with
          | true => simp [seB, sE, see, vE, a1]
          | false =>
            cases r with
            | none => simp [seB, sE, see, vE, a0, roleD]
            | some r =>
              by_cases hr : s'.owner = r
              · simp [seB, sE, see, vE, a1, roleD, Dl.e, hix, Se.e, hr]
              · have h3 : ((s'.owner : Int) == (r : Int)) = false := by simp; omega
                have h4 : ¬ r = s'.owner := fun z => hr z.symm
                simp [seB, sE, see, vE, a0, roleD, Dl.e, hix, Se.e, h3, h4])
    [some d.e, some p.e, some (roleD r), some (.ref 0), none, none, none] [.lst []] ⟨none, none, none, rfl, by simp⟩
  simp [d__law_sees, Pc.e, kFor_ap]
  simp [Pc.e] at hw
  rw [hw]
  simp
  exact fin_v (by simp)
end PyD.K16

namespace PyD.K16
open PyD
variable {fuel : Nat}
theorem c_sees {k : Nat} (hk : 1 ≤ k) {d : Dl} (hd : d.ok) {p : Pc} (hp : p.ok d) (r : Option Nat) (h : AH) : callC (tabF L fuel k 35) [d.e, p.e, roleD r] h = some ((p.view d r).eS, h) :=
  callV (by simp) (sees_ok hk hd hp r) (by simp)
theorem c_sees0 {k : Nat} (hk : 1 ≤ k) {d : Dl} (hd : d.ok) {p : Pc} (hp : p.ok d) (h : AH) : callC (tabF L fuel k 35) [d.e, p.e, .non] h = some ((p.view d none).eS, h) := c_sees hk hd hp none h
theorem c_seesR {k : Nat} (hk : 1 ≤ k) {d : Dl} (hd : d.ok) {p : Pc} (hp : p.ok d) (r : Nat) (h : AH) : callC (tabF L fuel k 35) [d.e, p.e, .int r] h = some ((p.view d (some r)).eS, h) := c_sees hk hd hp (some r) h
theorem c_lholds {k : Nat} (hk : 11 ≤ k) {d : Dl} {p : Pc} (hp : p.ok d) (r : Option Nat) {t : Wn} (ht : t.fine d.cts.length d.sls.length) (h : AH) :
    callC (tabF L fuel k 34) [t.e, p.e, (p.view d r).eS] h = some (.bl (t.val (p.view d r)), h) := by
  have e : k = (k - t.dep - 6) + t.dep + 6 := by have := ht.2.1; omega
  rw [e]
  refine callV (by simp) ?_ rfl
  have := lholds_ok (fuel := fuel) (p := p.view d r) (rest := p.rest) p.rcl t (k - t.dep - 6) (by show t.okN _ _; rw [view_cs hp, view_ss hp]; exact ht.1)
  rw [view_place] at this
  exact this
theorem c_lsum {k : Nat} (hk : 6 ≤ k) {d : Dl} {p : Pc} (hp : p.ok d) (r : Option Nat) {t : Sm} (ht : t.fine d.cts.length d.sls.length) (h : AH) :
    callC (tabF L fuel k 33) [t.e, p.e, (p.view d r).eS] h = some (vE (t.val (p.view d r)), h) := by
  have e : k = (k - t.dep - 1) + t.dep + 1 := by have := ht.2.1; omega
  rw [e]
  refine callV (by simp) ?_ (by simp)
  exact sum_ok (fuel := fuel) (p.view d r) p.rest p.rcl t (k - t.dep - 1) (by show t.okN _ _; rw [view_cs hp, view_ss hp]; exact ht.1)
theorem c_holds {k : Nat} (hk : 5 ≤ k) (hf : 100 ≤ fuel) {d : Dl} {p : Pc} (hp : p.ok d) (r : Option Nat) {t : Wn} (ht : t.fine d.cts.length d.sls.length) (h : AH) :
    callC (tabF L fuel k 8) [t.e, (p.view d r).sight] h = some (.bl (t.val (p.view d r)), h) := by
  obtain ⟨k, rfl⟩ : ∃ m, k = m + 5 := ⟨k - 5, by omega⟩
  exact callV (by simp) (holds_ok k (p := p.view d r) t (by show t.okN _ _; rw [view_cs hp, view_ss hp]; exact ht.1) hf ht.2.2) rfl
/-! ### the program's way -/
def snB : Ss := (.cons (.set 8 (.bop true (.cons (.cmp .isnot (.var 7) .non) (.cons (.bop false (.cons (.cmp .eq (.idx (.var 7) (.int 0)) (.str "open")) (.cons (.cmp .eq (.var 5) (.var 2)) .nil))) .nil))))
 (.cons (.expr (.app (.var 3) (.ite (.var 8) (.idx (.var 7) (.int 1)) .non)))
 .nil))
theorem b_seen_eq : b_seen_seels = .cons (.set 3 (.fm (.disp .nil))) (.cons (.for_ (.t (.cons (.t (.cons (.v 4) (.cons (.v 5) (.cons (.v 6) .nil)))) (.cons (.v 7) .nil))) (.zip (.idx (.var 0) (.int 4)) (.var 1)) snB) (.cons (.ret (.blt .tuple (.cons (.var 3) .nil))) .nil)) := rfl
theorem zip_at {xs ys : List D} {m : Nat} {x : D} (h : ((xs.zip ys).map fun p => D.tup [p.1, p.2])[m]? = some x) : ∃ a b, xs[m]? = some a ∧ ys[m]? = some b ∧ x = .tup [a, b] := by
  rw [List.getElem?_map] at h
  cases hz : (xs.zip ys)[m]? with
  | none => rw [hz] at h; cases h
  | some q =>
    rw [hz] at h
    cases h
    have := List.getElem?_zip_eq_some.mp hz
    exact ⟨q.1, q.2, this.1, this.2, rfl⟩
def roleI : Option Nat → Int
  | none => -1
  | some r => r
theorem seen_ok {k : Nat} (hk : 1 ≤ k) {d : Dl} (hd : d.ok) {p : Pc} (hp : p.ok d) (ro : Option Nat) : tabF L fuel k 11 [d.e, .tup (p.ss.map sE), .int (roleI ro)] [] = some ((p.view d ro).eS, []) := by
  obtain ⟨k, rfl⟩ : ∃ m, k = m + 1 := ⟨k - 1, by omega⟩
  rw [tab_step (d := d_seen_seels) rfl]
  show (exs (tabF L fuel k) fuel b_seen_seels _ []).bind (kRun false 0) = _
  rw [b_seen_eq]
  let LL := (((d.sls.map Se.e).zip (p.ss.map sE)).map fun p => D.tup [p.1, p.2])
  obtain ⟨f, σ', h', hw, rfl, q4, q5, q6, q7, q8, rfl, rfl⟩ := for_ix (tg := .t (.cons (.t (.cons (.v 4) (.cons (.v 5) (.cons (.v 6) .nil)))) (.cons (.v 7) .nil))) (len := LL.length) (b := exs (tabF L fuel k) fuel snB) LL
    (fun m σ h => ∃ q4 q5 q6 q7 q8, σ = [some d.e, some (.tup (p.ss.map sE)), some (.int (roleI ro)), some (.ref 0), q4, q5, q6, q7, q8] ∧ h = [.lst (((p.view d ro).ss.take m).map vE)])
    (fun f σ h => f = .nx ∧ ∃ q4 q5 q6 q7 q8, σ = [some d.e, some (.tup (p.ss.map sE)), some (.int (roleI ro)), some (.ref 0), q4, q5, q6, q7, q8] ∧ h = [.lst ((p.view d ro).ss.map vE)])
    (fun σ h ⟨q4, q5, q6, q7, q8, e1, e2⟩ => ⟨rfl, q4, q5, q6, q7, q8, e1, by rw [e2, List.take_of_length_le]; simp [LL, view_ss hp, hp.s]⟩)
    (fun m x σ h hx ⟨q4, q5, q6, q7, q8, e1, e2⟩ => by
      subst e1; subst e2
      obtain ⟨a, b, ha, hb, rfl⟩ := zip_at hx
      rw [List.getElem?_map] at ha hb
      cases hs : p.ss[m]? with
      | none => simp [hs] at hb
      | some s =>
      cases hs' : d.sls[m]? with
      | none => simp [hs'] at ha
      | some s' =>
        simp only [hs, hs', Option.map_some, Option.some.injEq] at ha hb
        subst ha; subst hb
        have hm : m < d.sls.length := by rw [← hp.s]; exact (List.getElem?_eq_some_iff.mp hs).1
        have hv := view_at (r := ro) hs' hs
        have hlen : (((p.view d ro).ss.take m).map vE).length < lim := by simp [lim]; have := hd.ns; omega
        have hz : ((p.view d ro).ss.take (m + 1)).map vE = ((p.view d ro).ss.take m).map vE ++ [vE (see ro s' s)] := by rw [List.take_add_one, hv]; simp
        refine ⟨[some d.e, some (.tup (p.ss.map sE)), some (.int (roleI ro)), some (.ref 0), some (.str s'.name), some (.int s'.owner), some (.int s'.top), some (sE s), q8], by simp [put, puts, Se.e], .nx, [some d.e, some (.tup (p.ss.map sE)), some (.int (roleI ro)), some (.ref 0), some (.str s'.name), some (.int s'.owner), some (.int s'.top), some (sE s), some (.bl (see ro s' s).isSome)], [.lst (((p.view d ro).ss.take (m + 1)).map vE)], ?_, _, _, _, _, _, rfl, rfl⟩
        rw [hz]
        generalize ((p.view d ro).ss.take m).map vE = A at hlen
        have a0 : kApp2 (.ref 0) (.non, [.lst A]) = some (.non, [.lst (A ++ [.non])]) := app_r0 hlen
        have a1 : ∀ w, kApp2 (.ref 0) (.int w, [.lst A]) = some (.non, [.lst (A ++ [.int w])]) := fun w => app_r0 hlen
        rcases s with _ | ⟨o, w⟩
        · simp [snB, sE, see, vE, a0]
        · cases o with
          | true => simp [snB, sE, see, vE, a1]
          | false =>
            cases ro with
            | none =>
              have h3 : ((s'.owner : Int) == (-1)) = false := by rw [beq_eq_false_iff_ne]; omega
              simp [snB, sE, see, vE, a0, roleI, h3]
            | some r =>
              by_cases hr : s'.owner = r
              · simp [snB, sE, see, vE, a1, roleI, hr]
              · have h3 : ((s'.owner : Int) == (r : Int)) = false := by rw [beq_eq_false_iff_ne]; omega
                have h4 : ¬ r = s'.owner := fun z => hr z.symm
                simp [snB, sE, see, vE, a0, roleI, h3, h4])
    [some d.e, some (.tup (p.ss.map sE)), some (.int (roleI ro)), some (.ref 0), none, none, none, none, none] [.lst []] ⟨none, none, none, none, none, rfl, by simp⟩
  simp [d_seen_seels, kFor_ap, Dl.e]
  simp [Dl.e, LL] at hw
  rw [hw]
  simp
  exact fin_v (by simp)
theorem sight_ok {k : Nat} (hk : 2 ≤ k) {d : Dl} (hd : d.ok) {p : Pc} (hp : p.ok d) (ro : Option Nat) : tabF L fuel k 12 [d.e, p.e, .int (roleI ro)] [] = some ((p.view d ro).sight, []) := by
  obtain ⟨k, rfl⟩ : ∃ m, k = m + 1 := ⟨k - 1, by omega⟩
  have c : callC (tabF L fuel k 11) [d.e, .tup (p.ss.map sE), .int (roleI ro)] [] = some ((p.view d ro).eS, []) := callV (by simp) (seen_ok (by omega) hd hp ro) (by simp)
  rw [tab_step (d := d_sight_of) rfl]
  simp [d_sight_of, b_sight_of, Pc.e, c]
  exact fin_0 (by simp)
end PyD.K16

namespace PyD.K16
open PyD
variable {fuel : Nat}
@[simp] theorem ne_n_i (i h) : cmpop .ne .non (.int i) h = some true := rfl
theorem fin_r {es : List D} {r : AH} (he : closeds es = true) : fin false 0 (.ref 0) (.lst es :: r) = some (.lst es, []) := by
  simp [fin, mapR, fzR, mapRs_c es he]
@[simp] theorem ofSeq_ap (xs h) : kIts (.tup xs, h) = some (xs, h) := rfl
/-! ### what is told, in plain words -/
def Dl.first (d : Dl) : Pc := ⟨0, d.cts.map (fun _ => 0), d.sls.map (fun _ => none), List.replicate (d.dds.length + d.cls.length) 0, List.replicate d.roles.length false⟩
theorem Dl.first_ok {d : Dl} (hd : d.ok) : d.first.ok d := ⟨by simp [Dl.first], by simp [Dl.first], by simp [Dl.first], hd.dy, fun o w h => by simp [Dl.first] at h, by simp [Dl.first]⟩
def Pc.dawn (p : Pc) : Pc := ⟨p.day + 1, p.cs, p.ss, List.replicate p.dn.length 0, List.replicate p.ps.length false⟩
theorem Pc.dawn_ok {d : Dl} {p : Pc} (h : p.ok d) (hb : p.day < d.days) : p.dawn.ok d := ⟨h.c, h.s, by simp [Pc.dawn, h.n], by show p.day + 1 ≤ d.days; omega, h.wr, by simp [Pc.dawn, h.p]⟩
theorem rep_cl (n : Nat) (x : D) (h : closed x = true) : closeds (List.replicate n x) = true := closeds_all fun y hy => by rw [List.eq_of_mem_replicate hy]; exact h
def Dl.top (d : Dl) (j : Nat) : Int := (d.cts[j]?.map Ct.top).getD 0
/-- the steps, one behind another -/
def oneP (d : Dl) (v : Pl) (s : Nat × Sm) (cs : List Int) : Option (List Int) := match s.2.val v with
  | none => none
  | some i => if i < 0 ∨ d.top s.1 < i then none else some (cs.set s.1 i)
def stepP (d : Dl) (v : Pl) : List (Nat × Sm) → List Int → Option (List Int)
  | [], cs => some cs
  | s :: st, cs => (oneP d v s cs).bind (stepP d v st)
theorem oneP_len {d : Dl} {v : Pl} {s : Nat × Sm} {cs l : List Int} (e : oneP d v s cs = some l) : l.length = cs.length := by
  unfold oneP at e
  split at e
  · cases e
  · split at e
    · cases e
    · cases e; simp
theorem stepP_len (d : Dl) (v : Pl) : ∀ (st : List (Nat × Sm)) (cs l : List Int), stepP d v st cs = some l → l.length = cs.length
  | [], cs, l, e => by cases e; rfl
  | s :: st, cs, l, e => by
    simp only [stepP, Option.bind_eq_some_iff] at e
    obtain ⟨m, e1, e2⟩ := e
    rw [stepP_len d v st m l e2, oneP_len e1]
def csE : Option (List Int) → D
  | none => .non
  | some l => .tup (l.map .int)
@[simp] theorem csE_cl (r) : closed (csE r) = true := by cases r <;> simp [csE]
/-- the worth at a place of seels -/
def seelP (d : Dl) (ss : List (Option (Bool × Int))) : Kd → D → Option (List (Option (Bool × Int)))
  | .plain, .non => some ss
  | .ch j, .int i => match ss[j]? with
    | some none => if 0 ≤ i ∧ i ≤ (((d.sls[j]?.map Se.top).getD 0 : Nat) : Int) then some (ss.set j (some (false, i))) else none
    | _ => none
  | .op j, .int i => match ss[j]? with
    | some (some (false, v)) => if 0 ≤ i ∧ i = v then some (ss.set j (some (true, v))) else none
    | _ => none
  | _, _ => none
theorem seelP_ok {d : Dl} {ss ss' : List (Option (Bool × Int))} {kd : Kd} {w : D} (e : seelP d ss kd w = some ss') (h : ∀ o w, some (o, w) ∈ ss → 0 ≤ w) : ss'.length = ss.length ∧ ∀ o w, some (o, w) ∈ ss' → 0 ≤ w := by
  have put : ∀ (j : Nat) (o : Bool) (v : Int), 0 ≤ v → ∀ o' w', some (o', w') ∈ ss.set j (some (o, v)) → 0 ≤ w' := fun j o v hv o' w' hm => by
    rcases List.mem_or_eq_of_mem_set hm with hm | hm
    · exact h o' w' hm
    · cases hm; exact hv
  cases kd with
  | plain => cases w <;> simp [seelP] at e; subst e; exact ⟨rfl, h⟩
  | ch j =>
    cases w <;> simp only [seelP, reduceCtorEq] at e
    rename_i i
    split at e
    · split at e
      · rename_i hc
        cases e
        exact ⟨by simp, put j false i hc.1⟩
      · cases e
    · cases e
  | op j =>
    cases w <;> simp only [seelP, reduceCtorEq] at e
    rename_i i
    split at e
    · split at e
      · rename_i v hv hc
        cases e
        exact ⟨by simp, put j true v (by omega)⟩
      · cases e
    · cases e
/-- a deed done, if it can be -/
def doneP (d : Dl) (p : Pc) (n : Nat) (w : D) : Option Pc := match d.dds[n]? with
  | none => none
  | some x => if d.days ≤ p.day ∨ x.times ≤ p.dn.getD n 0 ∨ x.when.val (p.view d (some x.role)) = false then none
    else match stepP d (p.view d (some x.role)) x.steps p.cs, seelP d p.ss x.kind w with
      | some cs, some ss => some ⟨p.day, cs, ss, p.dn.set n (p.dn.getD n 0 + 1), List.replicate d.roles.length false⟩
      | _, _ => none
theorem doneP_ok {d : Dl} {p q : Pc} {n : Nat} {w : D} (hp : p.ok d) (e : doneP d p n w = some q) : q.ok d ∧ p.day < d.days := by
  unfold doneP at e
  split at e
  · cases e
  · split at e
    · cases e
    · rename_i x hx hc
      split at e
      · rename_i cs ss h1 h2
        cases e
        obtain ⟨a1, a2⟩ := seelP_ok h2 hp.wr
        refine ⟨⟨?_, a1.trans hp.s, by simp [hp.n], hp.dy, a2, by simp⟩, by omega⟩
        exact (stepP_len _ _ _ _ _ h1).trans hp.c
      · cases e
def pE : Option Pc → D
  | none => .non
  | some p => p.e
@[simp] theorem pE_cl (o) : closed (pE o) = true := by cases o <;> simp [pE]
/-! ### the first place, a dawn -/
theorem first_run {k : Nat} (hk : 1 ≤ k) {d : Dl} (hd : d.ok) : tabF L fuel k 36 [d.e] [] = some (d.first.e, []) := by
  obtain ⟨k, rfl⟩ : ∃ m, k = m + 1 := ⟨k - 1, by omega⟩
  have hd1 := hd.nd; have hd0 := hd.nl; have hd2 := hd.nr; have hd3 := hd.nc; have hd4 := hd.ns
  have cc := compL_map (σ := [some d.e, none, none, none]) (tg := .t (.cons (.v 1) (.cons (.v 2) (.cons (.v 3) .nil)))) (len := d.cts.length) (c := tstO (tabF L fuel k) .no) (e := ev (tabF L fuel k) (.var 3)) (h := []) (fun _ => true) (fun _ => .int 0) (d.cts.map Ct.e) 0 (fun x hx => by
    obtain ⟨c, _, rfl⟩ := List.mem_map.mp hx
    exact ⟨[some d.e, some (.str c.name), some (.int c.top), some (.int 0)], by simp [put, puts, Ct.e], by simp, by simp⟩)
  rw [List.filter_eq_self.mpr (fun _ _ => rfl), List.map_map] at cc
  have m1 := mul_t (x := .non) (n := d.sls.length) (by omega)
  have m2 := mul_t (x := .int 0) (n := d.dds.length + d.cls.length) (by omega)
  rw [Int.natCast_add] at m2
  have m3 := mul_t (x := .bl false) (n := d.roles.length) (by omega)
  have hl : d.cts.length ≤ lim := by simp [lim]; omega
  rw [tab_step (d := d__law_first) rfl]
  simp only [Dl.e] at cc
  simp [d__law_first, b__law_first, Dl.e, kComp_ap, hl, cc, m1, m2, m3]
  rw [fin_0]
  · simp [Pc.e, Dl.first, sE, Function.comp_def, List.map_const']
  · simp [closeds_all, closeds_map]
theorem begin_run {k : Nat} (hk : 1 ≤ k) {d : Dl} (hd : d.ok) : tabF L fuel k 9 [d.e] [] = some (d.first.e, []) := by
  obtain ⟨k, rfl⟩ : ∃ m, k = m + 1 := ⟨k - 1, by omega⟩
  have hd1 := hd.nd; have hd0 := hd.nl; have hd2 := hd.nr; have hd3 := hd.nc; have hd4 := hd.ns
  have cc := compL_map (σ := [some d.e, none, none, none, none, none]) (tg := .t (.cons (.v 3) (.cons (.v 4) (.cons (.v 5) .nil)))) (len := d.cts.length) (c := tstO (tabF L fuel k) .no) (e := ev (tabF L fuel k) (.var 5)) (h := []) (fun _ => true) (fun _ => .int 0) (d.cts.map Ct.e) 0 (fun x hx => by
    obtain ⟨c, _, rfl⟩ := List.mem_map.mp hx
    exact ⟨[some d.e, none, none, some (.str c.name), some (.int c.top), some (.int 0)], by simp [put, puts, Ct.e], by simp, by simp⟩)
  rw [List.filter_eq_self.mpr (fun _ _ => rfl), List.map_map] at cc
  have m1 := mul_t (x := .non) (n := d.sls.length) (by omega)
  have m2 := mul_t (x := .int 0) (n := d.dds.length + d.cls.length) (by omega)
  rw [Int.natCast_add] at m2
  have m3 := mul_t (x := .bl false) (n := d.roles.length) (by omega)
  have hl : d.cts.length ≤ lim := by simp [lim]; omega
  rw [tab_step (d := d_begin_place) rfl]
  simp only [Dl.e] at cc
  simp [d_begin_place, b_begin_place, Dl.e, kComp_ap, hl, cc, m1, m2, m3]
  rw [fin_0]
  · simp [Pc.e, Dl.first, sE, Function.comp_def, List.map_const']
  · simp [closeds_all, closeds_map]
theorem dawn_run {k : Nat} (hk : 1 ≤ k) {d : Dl} (hd : d.ok) {p : Pc} (hp : p.ok d) : tabF L fuel k 39 [p.e] [] = some (p.dawn.e, []) := by
  obtain ⟨k, rfl⟩ : ∃ m, k = m + 1 := ⟨k - 1, by omega⟩
  have hd1 := hd.nd; have hd0 := hd.nl; have hd2 := hd.nr
  have m2 := mul_t (x := .int 0) (n := p.dn.length) (by rw [hp.n]; omega)
  have m3 := mul_t (x := .bl false) (n := p.ps.length) (by rw [hp.p]; omega)
  rw [tab_step (d := d__law_dawn) rfl]
  simp [d__law_dawn, b__law_dawn, Pc.e, m2, m3]
  rw [fin_0]
  · simp [Pc.dawn]
  · simp
    exact ⟨rep_cl _ _ rfl, rep_cl _ _ rfl⟩
theorem c_dawn {k : Nat} (hk : 1 ≤ k) {d : Dl} (hd : d.ok) {p : Pc} (hp : p.ok d) (h : AH) : callC (tabF L fuel k 39) [p.e] h = some (p.dawn.e, h) := callV (by simp) (dawn_run hk hd hp) (by simp)
theorem c_first {k : Nat} (hk : 1 ≤ k) {d : Dl} (hd : d.ok) (h : AH) : callC (tabF L fuel k 36) [d.e] h = some (d.first.e, h) := callV (by simp) (first_run hk hd) (by simp)
theorem c_begin {k : Nat} (hk : 1 ≤ k) {d : Dl} (hd : d.ok) (h : AH) : callC (tabF L fuel k 9) [d.e] h = some (d.first.e, h) := callV (by simp) (begin_run hk hd) (by simp)
end PyD.K16

namespace PyD.K16
open PyD
variable {fuel : Nat}
/-- a walk through the steps -/
theorem walk_steps {C : Nat → Fun} {d : Dl} {v : Pl} {tg : Tg} {B : Ss} {len : Nat} (S : Option D → Option D → Option D → Sl) (hput : ∀ s q1 q2 q3, put tg (stE s) (S q1 q2 q3) = some (S (some (.int s.1)) (some s.2.e) q3)) (ok : Nat × Sm → Prop)
    (hB : ∀ s, ok s → ∀ (cs : List Int) q3, cs.length = d.cts.length → ∃ z, exs C fuel B (S (some (.int s.1)) (some s.2.e) q3) [.lst (cs.map .int)] = (match oneP d v s cs with
      | some cs' => some (.nx, S (some (.int s.1)) (some s.2.e) z, [.lst (cs'.map .int)])
      | none => some (.rt .non, S (some (.int s.1)) (some s.2.e) z, [.lst (cs.map .int)]))) :
    ∀ (st : List (Nat × Sm)) (cs : List Int) (i : Nat) q1 q2 q3, (∀ s ∈ st, ok s) → cs.length = d.cts.length →
      ∃ f σ' h', forL tg none len (exs C fuel B) (st.map stE) i (S q1 q2 q3) [.lst (cs.map .int)] = some (f, σ', h') ∧ (match stepP d v st cs with
        | some l => f = .nx ∧ (∃ z1 z2 z3, σ' = S z1 z2 z3) ∧ h' = [.lst (l.map .int)]
        | none => f = .rt .non)
  | [], cs, i, q1, q2, q3, _, _ => ⟨.nx, _, _, by simp [forL, okL], rfl, ⟨q1, q2, q3, rfl⟩, rfl⟩
  | s :: st, cs, i, q1, q2, q3, hs, hl => by
    obtain ⟨z, eb⟩ := hB s (hs s (by simp)) cs q3 hl
    simp only [List.map_cons, forL, okL, cur, if_true, Option.bind_some, hput, eb, stepP]
    cases ho : oneP d v s cs with
    | none => exact ⟨.rt .non, _, _, rfl, rfl⟩
    | some cs' =>
      simp only [Option.bind_some]
      exact walk_steps S hput ok hB st cs' (i + 1) _ _ _ (fun x hx => hs x (by simp [hx])) ((oneP_len ho).trans hl)
abbrev stOk (d : Dl) (s : Nat × Sm) : Prop := s.1 < d.cts.length ∧ s.2.fine d.cts.length d.sls.length
theorem top_ix {d : Dl} {j : Nat} (h : j < d.cts.length) (H : AH) : ∃ c : Ct, index (.tup (d.cts.map Ct.e)) (.int (j : Nat)) H = some c.e ∧ c.top = d.top j := by
  have hc : d.cts[j]? = some d.cts[j] := List.getElem?_eq_getElem h
  exact ⟨d.cts[j], index_at rfl (by simp [hc]), by simp [Dl.top, hc]⟩
/-! ### the law's steps -/
def spB : Ss := (.cons (.set 8 (.call 33 (.cons (.var 7) (.cons (.var 1) (.cons (.var 5) .nil)))))
 (.cons (.ite (.bop false (.cons (.cmp .is (.var 8) .non) (.cons (.cmp .lt (.var 8) (.int 0)) (.cons (.cmp .gt (.var 8) (.idx (.idx (.idx (.var 0) (.int 3)) (.var 6)) (.int 1))) .nil))))
 (.cons (.ret .non)
 .nil)
 .nil)
 (.cons (.setIx (.var 4) (.var 6) (.var 8))
 .nil)))
theorem b_stepped_eq : b__law_stepped = .cons (.par2 4 5 (.fm (.ofSeq (.idx (.var 1) (.int 1)))) (.call 35 (.cons (.var 0) (.cons (.var 1) (.cons (.var 2) .nil))))) (.cons (.for_ (.t (.cons (.v 6) (.cons (.v 7) .nil))) (.seq (.var 3)) spB) (.cons (.ret (.blt .tuple (.cons (.var 4) .nil))) .nil)) := rfl
theorem stepped_run {k : Nat} (hk : 7 ≤ k) {d : Dl} (hd : d.ok) {p : Pc} (hp : p.ok d) (r : Nat) (st : List (Nat × Sm)) (hs : ∀ s ∈ st, stOk d s) :
    tabF L fuel k 37 [d.e, p.e, .int r, .tup (st.map stE)] [] = some (csE (stepP d (p.view d (some r)) st p.cs), []) := by
  obtain ⟨k, rfl⟩ : ∃ m, k = m + 1 := ⟨k - 1, by omega⟩
  rw [tab_step (d := d__law_stepped) rfl]
  show (exs (tabF L fuel k) fuel b__law_stepped _ []).bind (kRun false 0) = _
  rw [b_stepped_eq]
  generalize hv : p.view d (some r) = v
  have c1 : callC (tabF L fuel k 35) [d.e, p.e, .int r] [.lst (p.cs.map .int)] = some (v.eS, [.lst (p.cs.map .int)]) := by rw [← hv]; exact c_seesR (by omega) hd hp r _
  obtain ⟨f, σ', h', hw, hP⟩ := walk_steps (fuel := fuel) (C := tabF L fuel k) (d := d) (v := v) (tg := .t (.cons (.v 6) (.cons (.v 7) .nil))) (B := spB) (len := st.length)
    (fun q6 q7 q8 => [some d.e, some p.e, some (.int r), some (.tup (st.map stE)), some (.ref 0), some v.eS, q6, q7, q8]) (fun s q1 q2 q3 => by simp [put, puts, stE]) (stOk d)
    (fun s ⟨s1, s2⟩ cs q3 hl => by
      have c2 := c_lsum (fuel := fuel) (k := k) (by omega) hp (some r) s2 [.lst (List.map D.int cs)]
      rw [hv] at c2
      obtain ⟨c, hix, hct⟩ := top_ix s1 [.lst (List.map D.int cs)]
      have hix2 : ∀ H, index d.e (.int 3) H = some (.tup (d.cts.map Ct.e)) := fun H => by simp [Dl.e]
      have hpl := place_nat (n := (List.map D.int cs).length) (m := s.1) (by simp [hl]; exact s1)
      have hsx : ∀ σ d, kSx3 σ d (.ref 0) (.int (s.1 : Nat), [.lst (List.map D.int cs)]) = some (.nx, σ, [.lst ((List.map D.int cs).set s.1 d)]) := fun σ d => kSx3_ap (n := 0) (h := [.lst (List.map D.int cs)]) rfl hpl
      unfold oneP
      cases hv2 : s.2.val v with
      | none =>
        rw [hv2] at c2
        exact ⟨some .non, by simp [spB, c2, vE]⟩
      | some i =>
        rw [hv2] at c2
        rw [← hct]
        refine ⟨some (.int i), ?_⟩
        by_cases h1 : i < 0
        · simp [spB, c2, vE, h1]
        · by_cases h2 : c.top < i
          · simp [spB, c2, vE, h1, hix, hix2, Ct.e, h2]
          · simp [spB, c2, vE, h1, hix, hix2, Ct.e, h2, hsx, List.map_set])
    st p.cs 0 none none none hs hp.c
  have j1 : ∀ H, index p.e (.int 1) H = some (.tup (p.cs.map .int)) := fun H => by simp [Pc.e]
  simp [d__law_stepped, j1, c1, kFor_ap]
  rw [hw]
  cases hq : stepP d v st p.cs with
  | some l =>
    rw [hq] at hP
    obtain ⟨rfl, ⟨z1, z2, z3, rfl⟩, rfl⟩ := hP
    simp [csE]
    exact fin_v (by simp)
  | none =>
    rw [hq] at hP
    obtain rfl := hP
    simp [csE]
    exact fin_v rfl
theorem c_stepped {k : Nat} (hk : 7 ≤ k) {d : Dl} (hd : d.ok) {p : Pc} (hp : p.ok d) (r : Nat) (st : List (Nat × Sm)) (hs : ∀ s ∈ st, stOk d s) (h : AH) :
    callC (tabF L fuel k 37) [d.e, p.e, .int r, .tup (st.map stE)] h = some (csE (stepP d (p.view d (some r)) st p.cs), h) := callV (by simp) (stepped_run hk hd hp r st hs) (by simp)
/-! ### the program's steps -/
def sqB : Ss := (.cons (.set 7 (.call 6 (.cons (.var 6) (.cons (.var 3) .nil))))
 (.cons (.ite (.bop false (.cons (.cmp .is (.var 7) .non) (.cons (.not (.chain .le .le (.int 0) (.var 7) (.idx (.idx (.idx (.var 0) (.int 3)) (.var 5)) (.int 1)))) .nil)))
 (.cons (.ret .non)
 .nil)
 .nil)
 (.cons (.setIx (.var 4) (.var 5) (.var 7))
 .nil)))
theorem b_pstepped_eq : b_stepped = .cons (.set 4 (.fm (.ofSeq (.var 1)))) (.cons (.for_ (.t (.cons (.v 5) (.cons (.v 6) .nil))) (.seq (.var 2)) sqB) (.cons (.ret (.blt .tuple (.cons (.var 4) .nil))) .nil)) := rfl
theorem c_worthV {k : Nat} (hk : 4 ≤ k) (hf : 100 ≤ fuel) {d : Dl} {p : Pc} (hp : p.ok d) (r : Option Nat) {t : Sm} (ht : t.fine d.cts.length d.sls.length) (h : AH) :
    callC (tabF L fuel k 6) [t.e, (p.view d r).sight] h = some (vE (t.val (p.view d r)), h) := by
  obtain ⟨k, rfl⟩ : ∃ m, k = m + 3 := ⟨k - 3, by omega⟩
  exact c_worth k (p := p.view d r) t (by rw [view_cs hp, view_ss hp]; exact ht) hf h
theorem pstepped_run {k : Nat} (hk : 7 ≤ k) (hf : 100 ≤ fuel) {d : Dl} (hd : d.ok) {p : Pc} (hp : p.ok d) (r : Nat) (st : List (Nat × Sm)) (hs : ∀ s ∈ st, stOk d s) :
    tabF L fuel k 14 [d.e, .tup (p.cs.map .int), .tup (st.map stE), (p.view d (some r)).sight] [] = some (csE (stepP d (p.view d (some r)) st p.cs), []) := by
  obtain ⟨k, rfl⟩ : ∃ m, k = m + 1 := ⟨k - 1, by omega⟩
  rw [tab_step (d := d_stepped) rfl]
  show (exs (tabF L fuel k) fuel b_stepped _ []).bind (kRun false 0) = _
  rw [b_pstepped_eq]
  generalize hv : p.view d (some r) = v
  obtain ⟨f, σ', h', hw, hP⟩ := walk_steps (fuel := fuel) (C := tabF L fuel k) (d := d) (v := v) (tg := .t (.cons (.v 5) (.cons (.v 6) .nil))) (B := sqB) (len := st.length)
    (fun q6 q7 q8 => [some d.e, some (.tup (p.cs.map .int)), some (.tup (st.map stE)), some v.sight, some (.ref 0), q6, q7, q8]) (fun s q1 q2 q3 => by simp [put, puts, stE]) (stOk d)
    (fun s ⟨s1, s2⟩ cs q3 hl => by
      have c2 := c_worthV (fuel := fuel) (k := k) (by omega) hf hp (some r) s2 [.lst (List.map D.int cs)]
      rw [hv] at c2
      obtain ⟨c, hix, hct⟩ := top_ix s1 [.lst (List.map D.int cs)]
      have hix2 : ∀ H, index d.e (.int 3) H = some (.tup (d.cts.map Ct.e)) := fun H => by simp [Dl.e]
      have hpl := place_nat (n := (List.map D.int cs).length) (m := s.1) (by simp [hl]; exact s1)
      have hsx : ∀ σ d, kSx3 σ d (.ref 0) (.int (s.1 : Nat), [.lst (List.map D.int cs)]) = some (.nx, σ, [.lst ((List.map D.int cs).set s.1 d)]) := fun σ d => kSx3_ap (n := 0) (h := [.lst (List.map D.int cs)]) rfl hpl
      unfold oneP
      cases hv2 : s.2.val v with
      | none =>
        rw [hv2] at c2
        exact ⟨some .non, by simp [sqB, c2, vE]⟩
      | some i =>
        rw [hv2] at c2
        rw [← hct]
        refine ⟨some (.int i), ?_⟩
        by_cases h1 : i < 0
        · have h1' : ¬ 0 ≤ i := by omega
          simp [sqB, c2, vE, h1, h1']
        · have h1' : 0 ≤ i := by omega
          by_cases h2 : c.top < i
          · have h2' : ¬ i ≤ c.top := by omega
            simp [sqB, c2, vE, h1, h1', hix, hix2, Ct.e, h2, h2']
          · have h2' : i ≤ c.top := by omega
            simp [sqB, c2, vE, h1, h1', hix, hix2, Ct.e, h2, h2', hsx, List.map_set])
    st p.cs 0 none none none hs hp.c
  simp [d_stepped, kFor_ap]
  rw [hw]
  cases hq : stepP d v st p.cs with
  | some l =>
    rw [hq] at hP
    obtain ⟨rfl, ⟨z1, z2, z3, rfl⟩, rfl⟩ := hP
    simp [csE]
    exact fin_v (by simp)
  | none =>
    rw [hq] at hP
    obtain rfl := hP
    simp [csE]
    exact fin_v rfl
theorem c_pstepped {k : Nat} (hk : 7 ≤ k) (hf : 100 ≤ fuel) {d : Dl} (hd : d.ok) {p : Pc} (hp : p.ok d) (r : Nat) (st : List (Nat × Sm)) (hs : ∀ s ∈ st, stOk d s) (h : AH) :
    callC (tabF L fuel k 14) [d.e, .tup (p.cs.map .int), .tup (st.map stE), (p.view d (some r)).sight] h = some (csE (stepP d (p.view d (some r)) st p.cs), h) := callV (by simp) (pstepped_run hk hf hd hp r st hs) (by simp)
end PyD.K16

namespace PyD.K16
open PyD
variable {fuel : Nat}
def isI : D → Bool
  | .int _ => true
  | _ => false
def numB (v : D) (l : Int) (m : Option Int) : Bool := match v with
  | .int i => decide (l ≤ i) && (match m with
    | none => true
    | some j => decide (i ≤ j))
  | _ => false
theorem isint_run {k : Nat} (hk : 1 ≤ k) (v : D) (hc : closed v = true) : tabF L fuel k 0 [v] [] = some (.bl (isI v), []) := by
  obtain ⟨k, rfl⟩ : ∃ m, k = m + 1 := ⟨k - 1, by omega⟩
  rw [tab_step (d := d_is_int) rfl]
  cases v with
  | ref n => simp [closed] at hc
  | _ => simp [d_is_int, b_is_int, isTy, isI]; exact fin_0 rfl
theorem c_isint {k : Nat} (hk : 1 ≤ k) (v : D) (hc : closed v = true) (h : AH) : callC (tabF L fuel k 0) [v] h = some (.bl (isI v), h) := callV (by simp [hc]) (isint_run hk v hc) rfl
theorem num_run {k : Nat} (hk : 2 ≤ k) (v : D) (hc : closed v = true) (l : Int) (m : Option Int) : tabF L fuel k 1 [v, .int l, vE m] [] = some (.bl (numB v l m), []) := by
  obtain ⟨k, rfl⟩ : ∃ m, k = m + 1 := ⟨k - 1, by omega⟩
  have c := c_isint (fuel := fuel) (k := k) (by omega) v hc []
  rw [tab_step (d := d_is_number) rfl]
  cases v with
  | int i =>
    simp only [isI] at c
    by_cases h1 : l ≤ i
    · cases m with
      | none => simp [d_is_number, b_is_number, c, h1, vE, numB]; exact fin_0 rfl
      | some j => simp [d_is_number, b_is_number, c, h1, vE, numB]; exact fin_0 rfl
    · cases m with
      | none => simp [d_is_number, b_is_number, c, h1, vE, numB]; exact fin_0 rfl
      | some j => simp [d_is_number, b_is_number, c, h1, vE, numB]; exact fin_0 rfl
  | _ =>
    simp only [isI] at c
    simp [d_is_number, b_is_number, c, numB]; exact fin_0 rfl
theorem c_num {k : Nat} (hk : 2 ≤ k) (v : D) (hc : closed v = true) (l m : Int) (h : AH) : callC (tabF L fuel k 1) [v, .int l, .int m] h = some (.bl (numB v l (some m)), h) := callV (by simp [hc]) (num_run hk v hc l (some m)) rfl
theorem c_num0 {k : Nat} (hk : 2 ≤ k) (v : D) (hc : closed v = true) (l : Int) (h : AH) : callC (tabF L fuel k 1) [v, .int l, .non] h = some (.bl (numB v l none), h) := callV (by simp [hc]) (num_run hk v hc l none) rfl
def soE : Option (List (Option (Bool × Int))) → D
  | none => .non
  | some ss => .tup (ss.map sE)
@[simp] theorem soE_cl (o) : closed (soE o) = true := by cases o <;> simp [soE]
theorem set_mid {α : Type} (l : List α) (n : Nat) (a : α) (h : n < l.length) : l.take n ++ [a] ++ l.drop (n + 1) = l.set n a := by
  rw [List.set_eq_take_append_cons_drop, if_pos h]; simp
theorem flat_cl {w : D} (h : flat w = true) : closed w = true := by cases w <;> simp [flat] at h <;> rfl
/-- x[:n] + (a,) + x[n + 1:] -/
theorem mid_ok {xs : List D} {n : Nat} (h : n < xs.length) (hl : xs.length ≤ 1000) (a : D) :
    cut xs none (some (n : Int)) = xs.take n ∧ cut xs (some ((n : Int) + 1)) none = xs.drop (n + 1) ∧ binop .add (.tup (xs.take n)) (.tup [a]) = some (.tup (xs.take n ++ [a])) ∧ binop .add (.tup (xs.take n ++ [a])) (.tup (xs.drop (n + 1))) = some (.tup (xs.set n a)) := by
  refine ⟨cut_to (by omega), ?_, add_t (by simp [lim]; omega), ?_⟩
  · have := cut_from (xs := xs) (n := n + 1) (by omega)
    simpa using this
  · rw [add_t (by simp [lim]; omega), set_mid _ _ _ h]
theorem ne_shut (o : Bool) (v i : Int) (h : AH) : cmpop .ne (.tup [.str (if o then "open" else "shut"), .int v]) (.tup [.str "shut", .int i]) h = some (!(!o && v == i)) := by
  cases o <;> simp [cmpop, eqO, rsv, depD, depDs, eqD, eqDs, beqD]
theorem ne_nshut (i : Int) (h : AH) : cmpop .ne .non (.tup [.str "shut", .int i]) h = some true := by
  simp [cmpop, eqO, rsv, depD, depDs, eqD, beqD]
theorem seels_run {k : Nat} (hk : 4 ≤ k) {d : Dl} (hd : d.ok) (ss : List (Option (Bool × Int))) (hs : ss.length = d.sls.length) (kd : Kd) (hkd : kd.ok d.sls.length) (w : D) (hw : flat w = true) :
    tabF L fuel k 15 [d.e, .tup (ss.map sE), kd.e, w] [] = some (soE (seelP d ss kd w), []) := by
  obtain ⟨k, rfl⟩ : ∃ m, k = m + 1 := ⟨k - 1, by omega⟩
  have hns := hd.ns
  have hcl := flat_cl hw
  have j4 : ∀ H, index d.e (.int 4) H = some (.tup (d.sls.map Se.e)) := fun H => by simp [Dl.e]
  rw [tab_step (d := d_seels_behind) rfl]
  cases kd with
  | plain =>
    cases w <;> simp [d_seels_behind, b_seels_behind, Kd.e, seelP, soE] <;> (exact fin_0 (by simp))
  | ch j =>
    have hjj : j < ss.length := by rw [hs]; exact hkd
    have h1 : ss[j]? = some ss[j] := List.getElem?_eq_getElem hjj
    have h2 : d.sls[j]? = some d.sls[j] := List.getElem?_eq_getElem hkd
    generalize ss[j] = s at h1
    generalize d.sls[j]'hkd = s' at h2
    have i1 : ∀ H, index (.tup (ss.map sE)) (.int (j : Nat)) H = some (sE s) := fun H => index_at rfl (by rw [List.getElem?_map, h1]; rfl)
    have i2 : ∀ H, index (.tup (d.sls.map Se.e)) (.int (j : Nat)) H = some s'.e := fun H => index_at rfl (by rw [List.getElem?_map, h2]; rfl)
    have cn := c_num (fuel := fuel) (k := k) (by omega) w hcl 0 s'.top []
    obtain ⟨m1, m2, m3, m4⟩ := mid_ok (xs := ss.map sE) (n := j) (by simp [hs]; exact hkd) (by simp [hs]; omega) (.tup [.str "shut", w])
    rcases s with _ | ⟨o, v⟩
    · cases w with
      | int i =>
        by_cases hb : 0 ≤ i ∧ i ≤ (s'.top : Int)
        · have hn : numB (.int i) 0 (some (s'.top : Int)) = true := by simp [numB, hb.1, hb.2]
          rw [hn] at cn
          have hr : seelP d ss (.ch j) (.int i) = some (ss.set j (some (false, i))) := by simp [seelP, h1, h2, hb.1, hb.2]
          rw [hr]
          simp [d_seels_behind, b_seels_behind, Kd.e, i1, sE, j4, i2, Se.e, cn, m1, m2, m3]
          rw [m4]
          simp [soE, sE]
          exact fin_0 (by
            have := sEs_cl (ss.set j (some (false, i)))
            simpa [List.map_set, sE] using this)
        · have hn : numB (.int i) 0 (some (s'.top : Int)) = false := by
            simp only [numB, Bool.and_eq_false_iff, decide_eq_false_iff_not]; omega
          rw [hn] at cn
          have hr : seelP d ss (.ch j) (.int i) = none := by simp only [seelP, h1, h2]; exact if_neg hb
          rw [hr]
          simp [d_seels_behind, b_seels_behind, Kd.e, i1, sE, j4, i2, Se.e, cn, soE]
          exact fin_0 rfl
      | non => simp only [numB] at cn; simp [d_seels_behind, b_seels_behind, Kd.e, i1, sE, j4, i2, Se.e, cn, soE, seelP]; exact fin_0 rfl
      | bl b => simp only [numB] at cn; simp [d_seels_behind, b_seels_behind, Kd.e, i1, sE, j4, i2, Se.e, cn, soE, seelP]; exact fin_0 rfl
      | str x => simp only [numB] at cn; simp [d_seels_behind, b_seels_behind, Kd.e, i1, sE, j4, i2, Se.e, cn, soE, seelP]; exact fin_0 rfl
      | _ => simp [flat] at hw
    · have hr : seelP d ss (.ch j) w = none := by cases w <;> simp [seelP, h1]
      rw [hr]
      simp [d_seels_behind, b_seels_behind, Kd.e, i1, sE, soE]
      exact fin_0 rfl
  | op j =>
    have hjj : j < ss.length := by rw [hs]; exact hkd
    have h1 : ss[j]? = some ss[j] := List.getElem?_eq_getElem hjj
    generalize ss[j] = s at h1
    have i1 : ∀ H, index (.tup (ss.map sE)) (.int (j : Nat)) H = some (sE s) := fun H => index_at rfl (by rw [List.getElem?_map, h1]; rfl)
    have cn := c_num0 (fuel := fuel) (k := k) (by omega) w hcl 0 []
    cases w with
    | int i =>
      obtain ⟨m1, m2, m3, m4⟩ := mid_ok (xs := ss.map sE) (n := j) (by simp [hs]; exact hkd) (by simp [hs]; omega) (.tup [.str "open", .int i])
      by_cases hb : 0 ≤ i
      · have hn : numB (.int i) 0 none = true := by simp [numB, hb]
        rw [hn] at cn
        rcases s with _ | ⟨o, v⟩
        · have hr : seelP d ss (.op j) (.int i) = none := by simp [seelP, h1]
          rw [hr]
          simp [d_seels_behind, b_seels_behind, Kd.e, i1, sE, cn, ne_nshut, soE]
          exact fin_0 rfl
        · have hne := ne_shut o v i []
          cases o with
          | true =>
            have hr : seelP d ss (.op j) (.int i) = none := by simp [seelP, h1]
            rw [hr]
            simp at hne
            simp [d_seels_behind, b_seels_behind, Kd.e, i1, sE, cn, hne, soE]
            exact fin_0 rfl
          | false =>
            by_cases hv : v = i
            · subst hv
              have hr : seelP d ss (.op j) (.int v) = some (ss.set j (some (true, v))) := by simp [seelP, h1, hb]
              rw [hr]
              simp at hne
              simp [d_seels_behind, b_seels_behind, Kd.e, i1, sE, cn, hne, m1, m2, m3]
              rw [m4]
              simp [soE, sE]
              exact fin_0 (by
                have := sEs_cl (ss.set j (some (true, v)))
                simpa [List.map_set, sE] using this)
            · have hr : seelP d ss (.op j) (.int i) = none := by
                simp only [seelP, h1]; exact if_neg (by omega)
              rw [hr]
              have hv2 : (v == i) = false := by simpa using hv
              simp [hv2] at hne
              simp [d_seels_behind, b_seels_behind, Kd.e, i1, sE, cn, hne, soE]
              exact fin_0 rfl
      · have hn : numB (.int i) 0 none = false := by simp [numB, hb]
        rw [hn] at cn
        have hr : seelP d ss (.op j) (.int i) = none := by
          simp only [seelP, h1]
          split
          · exact if_neg (by omega)
          · rfl
        rw [hr]
        simp [d_seels_behind, b_seels_behind, Kd.e, i1, sE, cn, soE]
        exact fin_0 rfl
    | non => simp only [numB] at cn; simp [d_seels_behind, b_seels_behind, Kd.e, i1, cn, soE, seelP]; exact fin_0 rfl
    | bl b => simp only [numB] at cn; simp [d_seels_behind, b_seels_behind, Kd.e, i1, cn, soE, seelP]; exact fin_0 rfl
    | str x => simp only [numB] at cn; simp [d_seels_behind, b_seels_behind, Kd.e, i1, cn, soE, seelP]; exact fin_0 rfl
    | _ => simp [flat] at hw
theorem once_run {k : Nat} (hk : 1 ≤ k) (dn : List Int) (n : Nat) (hn : n < dn.length) (hl : dn.length ≤ 1000) : tabF L fuel k 16 [.tup (dn.map .int), .int n] [] = some (.tup ((dn.set n (dn.getD n 0 + 1)).map .int), []) := by
  obtain ⟨k, rfl⟩ : ∃ m, k = m + 1 := ⟨k - 1, by omega⟩
  have hg : dn.getD n 0 = dn[n] := by simp [List.getD_eq_getElem?_getD, List.getElem?_eq_getElem hn]
  obtain ⟨m1, m2, m3, m4⟩ := mid_ok (xs := dn.map D.int) (n := n) (by simpa using hn) (by simpa using hl) (.int (dn.getD n 0 + 1))
  have i1 : ∀ H, index (.tup (dn.map .int)) (.int (n : Nat)) H = some (.int (dn.getD n 0)) := fun H => index_at rfl (by rw [hg]; simp [hn])
  generalize dn.getD n 0 = y at *
  rw [tab_step (d := d_done_once) rfl]
  simp [d_done_once, b_done_once, m1, m2, i1, m3]
  rw [m4]
  simp
  exact fin_0 (by
    have := ints_cl (dn.set n (y + 1))
    simpa [List.map_set] using this)
end PyD.K16

namespace PyD.K16
open PyD
variable {fuel : Nat}
/-! ### a deed, by the program -/
theorem over_run {k : Nat} (hk : 1 ≤ k) (d : Dl) (p : Pc) : tabF L fuel k 10 [d.e, p.e] [] = some (.bl (p.day == d.days), []) := by
  obtain ⟨k, rfl⟩ : ∃ m, k = m + 1 := ⟨k - 1, by omega⟩
  have j3 : ∀ H, index p.e (.int 0) H = some (.int p.day) := fun H => by simp [Pc.e]
  have j4 : ∀ H, index d.e (.int 2) H = some (.int d.days) := fun H => by simp [Dl.e]
  rw [tab_step (d := d_is_over) rfl]
  simp [d_is_over, b_is_over, j3, j4]
  exact fin_0 rfl
theorem over_le {d : Dl} {p : Pc} (hp : p.ok d) : (p.day == d.days) = decide (d.days ≤ p.day) := by
  have := hp.dy
  by_cases h : p.day = d.days
  · simp [h]
  · have h2 : ¬ d.days ≤ p.day := by omega
    simp [h, h2]
theorem c_over {k : Nat} (hk : 1 ≤ k) {d : Dl} {p : Pc} (hp : p.ok d) (h : AH) : callC (tabF L fuel k 10) [d.e, p.e] h = some (.bl (decide (d.days ≤ p.day)), h) := by
  rw [← over_le hp]; exact callV (by simp) (over_run hk d p) rfl
def ddB : Ss := (.cons (.asg (.t (.cons (.v 4) (.cons (.v 5) (.cons (.v 6) (.cons (.v 7) (.cons (.v 8) (.cons (.v 9) .nil))))))) (.idx (.idx (.var 0) (.int 5)) (.var 2)))
 (.cons (.set 10 (.call 12 (.cons (.var 0) (.cons (.var 1) (.cons (.var 5) .nil)))))
 (.cons (.ite (.bop false (.cons (.call 10 (.cons (.var 0) (.cons (.var 1) .nil))) (.cons (.cmp .ge (.idx (.idx (.var 1) (.int 3)) (.var 2)) (.var 9)) (.cons (.not (.call 8 (.cons (.var 7) (.cons (.var 10) .nil)))) .nil))))
 (.cons (.ret .non)
 .nil)
 .nil)
 (.cons (.set 11 (.call 15 (.cons (.var 0) (.cons (.idx (.var 1) (.int 2)) (.cons (.var 6) (.cons (.var 3) .nil))))))
 (.cons (.set 12 (.call 14 (.cons (.var 0) (.cons (.idx (.var 1) (.int 1)) (.cons (.var 8) (.cons (.var 10) .nil))))))
 (.cons (.ite (.bop false (.cons (.cmp .is (.var 11) .non) (.cons (.cmp .is (.var 12) .non) .nil)))
 (.cons (.ret .non)
 .nil)
 .nil)
 (.cons (.ret (.tup (.cons (.idx (.var 1) (.int 0)) (.cons (.var 12) (.cons (.var 11) (.cons (.call 16 (.cons (.idx (.var 1) (.int 3)) (.cons (.var 2) .nil))) (.cons (.bin .mul (.tup (.cons (.bl false) .nil)) (.blt .len (.cons (.idx (.var 0) (.int 1)) .nil))) .nil)))))))
 .nil)))))))
theorem b_deed_eq : b_deed_behind = ddB := rfl
theorem deed_run {k : Nat} (hk : 9 ≤ k) (hf : 100 ≤ fuel) {d : Dl} (hd : d.ok) {p : Pc} (hp : p.ok d) (n : Nat) (hn : n < d.dds.length) (w : D) (hw : flat w = true) :
    tabF L fuel k 17 [d.e, p.e, .int n, w] [] = some (pE (doneP d p n w), []) := by
  obtain ⟨k, rfl⟩ : ∃ m, k = m + 1 := ⟨k - 1, by omega⟩
  have hx : d.dds[n]? = some d.dds[n] := List.getElem?_eq_getElem hn
  have hxo := hd.dd _ (List.mem_of_getElem? hx)
  generalize d.dds[n] = x at hx hxo
  have hnn : n < p.dn.length := by rw [hp.n]; omega
  have hg : p.dn.getD n 0 = p.dn[n] := by simp [List.getD_eq_getElem?_getD, List.getElem?_eq_getElem hnn]
  have hnd := hd.nd
  have hnl := hd.nl
  have hnr := hd.nr
  have hwc := flat_cl hw
  have c1 : ∀ h, callC (tabF L fuel k 12) [d.e, p.e, .int (x.role : Nat)] h = some ((p.view d (some x.role)).sight, h) := fun h => callV (by simp) (sight_ok (fuel := fuel) (k := k) (by omega) hd hp (some x.role)) (by simp)
  have c2 := fun h => c_over (fuel := fuel) (k := k) (by omega) hp h
  have c3 := fun h => c_holds (fuel := fuel) (k := k) (by omega) hf hp (some x.role) hxo.w h
  have c4 : ∀ h, callC (tabF L fuel k 15) [d.e, .tup (p.ss.map sE), x.kind.e, w] h = some (soE (seelP d p.ss x.kind w), h) := fun h => callV (by simp [hwc]) (seels_run (fuel := fuel) (k := k) (by omega) hd p.ss hp.s x.kind hxo.k w hw) (by simp)
  have c5 := fun h => c_pstepped (fuel := fuel) (k := k) (by omega) hf hd hp x.role x.steps hxo.s h
  have c6 : ∀ h, callC (tabF L fuel k 16) [.tup (p.dn.map .int), .int (n : Nat)] h = some (.tup ((p.dn.set n (p.dn.getD n 0 + 1)).map .int), h) := fun h => callV (by simp) (once_run (fuel := fuel) (k := k) (by omega) p.dn n hnn (by rw [hp.n]; omega)) (by rw [closed_t]; exact ints_cl _)
  have j1 : ∀ H, index d.e (.int 5) H = some (.tup (d.dds.map Dd.e)) := fun H => by simp [Dl.e]
  have j2 : ∀ H, index (.tup (d.dds.map Dd.e)) (.int (n : Nat)) H = some x.e := fun H => index_at rfl (by simp [hx])
  have j3 : ∀ H, index p.e (.int 0) H = some (.int p.day) := fun H => by simp [Pc.e]
  have j5 : ∀ H, index p.e (.int 3) H = some (.tup (p.dn.map .int)) := fun H => by simp [Pc.e]
  have j6 : ∀ H, index (.tup (p.dn.map .int)) (.int (n : Nat)) H = some (.int (p.dn.getD n 0)) := fun H => index_at rfl (by rw [hg]; simp [hnn])
  have j7 : ∀ H, index p.e (.int 2) H = some (.tup (p.ss.map sE)) := fun H => by simp [Pc.e]
  have j8 : ∀ H, index p.e (.int 1) H = some (.tup (p.cs.map .int)) := fun H => by simp [Pc.e]
  have j9 : ∀ H, index d.e (.int 1) H = some (.tup (d.roles.map .str)) := fun H => by simp [Dl.e]
  have m5 := mul_t (x := .bl false) (n := d.roles.length) (by omega)
  have hput : ∀ q4 q5 q6 q7 q8 q9 q10 q11 q12, put (.t (.cons (.v 4) (.cons (.v 5) (.cons (.v 6) (.cons (.v 7) (.cons (.v 8) (.cons (.v 9) .nil))))))) x.e [some d.e, some p.e, some (.int n), some w, q4, q5, q6, q7, q8, q9, q10, q11, q12] =
    some [some d.e, some p.e, some (.int n), some w, some (.str x.name), some (.int x.role), some x.kind.e, some x.when.e, some (.tup (x.steps.map stE)), some (.int x.times), q10, q11, q12] := fun q4 q5 q6 q7 q8 q9 q10 q11 q12 => by simp [put, puts, Dd.e]
  rw [tab_step (d := d_deed_behind) rfl]
  show (exs (tabF L fuel k) fuel b_deed_behind [some d.e, some p.e, some (.int n), some w, none, none, none, none, none, none, none, none, none] []).bind (kRun false 0) = _
  rw [b_deed_eq]
  unfold doneP
  simp only [hx]
  generalize hy : p.dn.getD n 0 = y at *
  by_cases b1 : d.days ≤ p.day
  · rw [if_pos (.inl b1)]
    simp [ddB, j1, j2, hput, c1, c2, b1, pE]
    exact fin_0 rfl
  by_cases b2 : x.times ≤ y
  · rw [if_pos (.inr (.inl b2))]
    simp [ddB, j1, j2, hput, c1, c2, b1, j5, j6, b2, pE]
    exact fin_0 rfl
  generalize hv : p.view d (some x.role) = v at *
  cases b3 : x.when.val v with
  | false =>
    rw [if_pos (.inr (.inr rfl))]
    rw [b3] at c3
    simp [ddB, j1, j2, hput, c1, c2, b1, j5, j6, b2, c3, pE]
    exact fin_0 rfl
  | true =>
    rw [b3] at c3
    rw [if_neg (by simp [b1, b2])]
    generalize hst : stepP d v x.steps p.cs = st at *
    generalize hse : seelP d p.ss x.kind w = se at *
    cases se with
    | none =>
      simp only [soE] at c4
      cases st with
      | none => simp [ddB, j1, j2, hput, c1, c2, b1, j5, j6, b2, c3, j7, c4, j8, c5, pE]; exact fin_0 rfl
      | some l => simp [ddB, j1, j2, hput, c1, c2, b1, j5, j6, b2, c3, j7, c4, j8, c5, pE]; exact fin_0 rfl
    | some ss' =>
      simp only [soE] at c4
      cases st with
      | none =>
        simp only [csE] at c5
        simp [ddB, j1, j2, hput, c1, c2, b1, j5, j6, b2, c3, j7, c4, j8, c5, pE]; exact fin_0 rfl
      | some l =>
        simp only [csE] at c5
        simp [ddB, j1, j2, hput, c1, c2, b1, j5, j6, b2, c3, j7, c4, j8, c5, j3, c6, j9, m5]
        rw [fin_0]
        · simp [pE, Pc.e]
        · have h1 := sEs_cl ss'
          have h2 := ints_cl l
          have h3 := ints_cl (p.dn.set n (y + 1))
          simp [h1, h2, h3]
          exact ⟨by simpa [List.map_set] using h3, rep_cl _ _ rfl⟩
theorem c_deed {k : Nat} (hk : 9 ≤ k) (hf : 100 ≤ fuel) {d : Dl} (hd : d.ok) {p : Pc} (hp : p.ok d) (n : Nat) (hn : n < d.dds.length) (w : D) (hw : flat w = true) (h : AH) :
    callC (tabF L fuel k 17) [d.e, p.e, .int n, w] h = some (pE (doneP d p n w), h) := callV (by simp [flat_cl hw]) (deed_run hk hf hd hp n hn w hw) (by simp)
end PyD.K16

namespace PyD.K16
open PyD
variable {fuel : Nat}
def dn3 : S := (.ite (.cmp .eq (.idx (.var 6) (.int 0)) (.str "chooses"))
 (.cons (.ite (.bop false (.cons (.cmp .isnot (.idx (.var 10) (.idx (.var 6) (.int 1))) .non) (.cons (.cmp .is (.var 3) .non) (.cons (.cmp .lt (.var 3) (.int 0)) (.cons (.cmp .gt (.var 3) (.idx (.idx (.idx (.var 0) (.int 4)) (.idx (.var 6) (.int 1))) (.int 2))) .nil)))))
 (.cons (.ret .non)
 .nil)
 .nil)
 (.cons (.setIx (.var 10) (.idx (.var 6) (.int 1)) (.tup (.cons (.str "shut") (.cons (.var 3) .nil))))
 .nil))
 (.cons (.ite (.cmp .eq (.idx (.var 6) (.int 0)) (.str "opens"))
 (.cons (.ite (.bop false (.cons (.cmp .is (.idx (.var 10) (.idx (.var 6) (.int 1))) .non) (.cons (.cmp .ne (.idx (.idx (.var 10) (.idx (.var 6) (.int 1))) (.int 0)) (.str "shut")) (.cons (.cmp .ne (.var 3) (.idx (.idx (.var 10) (.idx (.var 6) (.int 1))) (.int 1))) .nil))))
 (.cons (.ret .non)
 .nil)
 .nil)
 (.cons (.setIx (.var 10) (.idx (.var 6) (.int 1)) (.tup (.cons (.str "open") (.cons (.idx (.idx (.var 10) (.idx (.var 6) (.int 1))) (.int 1)) .nil))))
 .nil))
 (.cons (.ite (.cmp .isnot (.var 3) .non)
 (.cons (.ret .non)
 .nil)
 .nil)
 .nil))
 .nil))
def dn4 : Ss := (.cons (.set 12 (.bin .add (.bin .add (.slc (.idx (.var 1) (.int 3)) .no (.so (.var 2))) (.tup (.cons (.bin .add (.idx (.idx (.var 1) (.int 3)) (.var 2)) (.int 1)) .nil))) (.slc (.idx (.var 1) (.int 3)) (.so (.bin .add (.var 2) (.int 1))) .no)))
 (.cons (.ret (.tup (.cons (.idx (.var 1) (.int 0)) (.cons (.var 11) (.cons (.blt .tuple (.cons (.var 10) .nil)) (.cons (.var 12) (.cons (.bin .mul (.tup (.cons (.bl false) .nil)) (.blt .len (.cons (.idx (.var 1) (.int 4)) .nil))) .nil)))))))
 .nil))
def dn1 : Ss := (.cons (.asg (.t (.cons (.v 4) (.cons (.v 5) (.cons (.v 6) (.cons (.v 7) (.cons (.v 8) (.cons (.v 9) .nil))))))) (.idx (.idx (.var 0) (.int 5)) (.var 2)))
 (.cons (.ite (.bop false (.cons (.cmp .ge (.idx (.var 1) (.int 0)) (.idx (.var 0) (.int 2))) (.cons (.cmp .ge (.idx (.idx (.var 1) (.int 3)) (.var 2)) (.var 9)) (.cons (.not (.call 34 (.cons (.var 7) (.cons (.var 1) (.cons (.call 35 (.cons (.var 0) (.cons (.var 1) (.cons (.var 5) .nil)))) .nil))))) .nil))))
 (.cons (.ret .non)
 .nil)
 .nil)
 (.cons (.par2 10 11 (.fm (.ofSeq (.idx (.var 1) (.int 2)))) (.call 37 (.cons (.var 0) (.cons (.var 1) (.cons (.var 5) (.cons (.var 8) .nil))))))
 (.cons (.ite (.cmp .is (.var 11) .non)
 (.cons (.ret .non)
 .nil)
 .nil) (.cons dn3 dn4)))))
theorem b_done_eq : b__law_done = dn1 := rfl
theorem dn3_ok {C : Nat → Fun} {d : Dl} {ss : List (Option (Bool × Int))} (hs : ss.length = d.sls.length) (hwr : ∀ o w, some (o, w) ∈ ss → 0 ≤ w) (kd : Kd) (hk : kd.ok d.sls.length) (w : Option Int) {x1 x2 x4 x5 x7 x8 x9 x11 x12 : Option D} :
    ∃ (f : Fl) (ss' : List (Option (Bool × Int))), ex C fuel dn3 [some d.e, x1, x2, some (vE w), x4, x5, some kd.e, x7, x8, x9, some (.ref 0), x11, x12] [.lst (ss.map sE)] =
      some (f, [some d.e, x1, x2, some (vE w), x4, x5, some kd.e, x7, x8, x9, some (.ref 0), x11, x12], [.lst (ss'.map sE)]) ∧ (match seelP d ss kd (vE w) with
        | some s2 => f = .nx ∧ ss' = s2
        | none => f = .rt .non) := by
  have key : ∀ j, j < d.sls.length → ∃ s s', ss[j]? = some s ∧ d.sls[j]? = some s' ∧ (∀ H, index (.ref 0) (.int (j : Nat)) (.lst (ss.map sE) :: H) = some (sE s)) ∧ (∀ H, index (.tup (d.sls.map Se.e)) (.int (j : Nat)) H = some s'.e) ∧
      (∀ σ y, kSx3 σ y (.ref 0) (.int (j : Nat), [.lst (ss.map sE)]) = some (.nx, σ, [.lst ((ss.map sE).set j y)])) := fun j hj => by
    have h1 : ss[j]? = some ss[j] := List.getElem?_eq_getElem (by omega)
    have h2 : d.sls[j]? = some d.sls[j] := List.getElem?_eq_getElem hj
    refine ⟨_, _, h1, h2, fun H => index_at (xs := ss.map sE) rfl (by rw [List.getElem?_map, h1]; rfl), fun H => index_at rfl (by rw [List.getElem?_map, h2]; rfl), fun σ y => ?_⟩
    exact kSx3_ap (n := 0) (h := [.lst (ss.map sE)]) rfl (place_nat (by simp; omega))
  have hd4 : ∀ H, index d.e (.int 4) H = some (.tup (d.sls.map Se.e)) := fun H => by simp [Dl.e]
  cases kd with
  | plain =>
    cases w with
    | none => exact ⟨.nx, ss, by simp [dn3, Kd.e, vE], by simp [seelP, vE]⟩
    | some i => exact ⟨.rt .non, ss, by simp [dn3, Kd.e, vE], by simp [seelP, vE]⟩
  | ch j =>
    obtain ⟨s, s', e1, e2, i1, i2, sx⟩ := key j hk
    rcases s with _ | ⟨o, v⟩
    · cases w with
      | none => exact ⟨.rt .non, ss, by simp [dn3, Kd.e, vE, i1, sE], by simp [seelP, vE]⟩
      | some i =>
        by_cases h1 : i < 0
        · exact ⟨.rt .non, ss, by simp [dn3, Kd.e, vE, i1, sE, h1], by simp only [seelP, vE, e1, e2]; rw [if_neg (by omega)]; trivial⟩
        · by_cases h2 : (s'.top : Int) < i
          · exact ⟨.rt .non, ss, by simp [dn3, Kd.e, vE, i1, sE, h1, hd4, i2, Se.e, h2], by simp only [seelP, vE, e1, e2, Option.map_some, Option.getD_some]; rw [if_neg (by omega)]; trivial⟩
          · exact ⟨.nx, ss.set j (some (false, i)), by simp [dn3, Kd.e, vE, i1, sE, h1, hd4, i2, Se.e, h2, sx, List.map_set], by simp only [seelP, vE, e1, e2, Option.map_some, Option.getD_some]; rw [if_pos (by omega)]; simp⟩
    · exact ⟨.rt .non, ss, by simp [dn3, Kd.e, vE, i1, sE], by cases w <;> simp [seelP, vE, e1]⟩
  | op j =>
    obtain ⟨s, s', e1, e2, i1, i2, sx⟩ := key j hk
    rcases s with _ | ⟨o, v⟩
    · exact ⟨.rt .non, ss, by simp [dn3, Kd.e, i1, sE], by cases w <;> simp [seelP, vE, e1]⟩
    · cases o with
      | true => exact ⟨.rt .non, ss, by simp [dn3, Kd.e, i1, sE], by cases w <;> simp [seelP, vE, e1]⟩
      | false =>
        cases w with
        | none => exact ⟨.rt .non, ss, by simp [dn3, Kd.e, i1, sE, vE], by simp [seelP, vE]⟩
        | some i =>
          have hv := hwr false v (List.mem_of_getElem? e1)
          by_cases h1 : i = v
          · exact ⟨.nx, ss.set j (some (true, v)), by simp [dn3, Kd.e, i1, sE, vE, h1, sx, List.map_set], by simp only [seelP, vE, e1]; rw [if_pos (by omega)]; simp⟩
          · have h2 : (i == v) = false := by simpa using h1
            exact ⟨.rt .non, ss, by simp [dn3, Kd.e, i1, sE, vE, h2], by simp only [seelP, vE, e1]; rw [if_neg (by omega)]; trivial⟩
theorem done_run {k : Nat} (hk : 12 ≤ k) {d : Dl} (hd : d.ok) {p : Pc} (hp : p.ok d) (n : Nat) (hn : n < d.dds.length) (w : Option Int) :
    tabF L fuel k 38 [d.e, p.e, .int n, vE w] [] = some (pE (doneP d p n (vE w)), []) := by
  obtain ⟨k, rfl⟩ : ∃ m, k = m + 1 := ⟨k - 1, by omega⟩
  have hx : d.dds[n]? = some d.dds[n] := List.getElem?_eq_getElem hn
  have hxo := hd.dd _ (List.mem_of_getElem? hx)
  generalize d.dds[n] = x at hx hxo
  have hnn : n < p.dn.length := by rw [hp.n]; omega
  have hy : p.dn[n]? = some p.dn[n] := List.getElem?_eq_getElem hnn
  generalize p.dn[n] = y at hy
  have c1 := fun h => c_seesR (fuel := fuel) (k := k) (by omega) hd hp x.role h
  have c2 := fun h => c_lholds (fuel := fuel) (k := k) (by omega) hp (some x.role) hxo.w h
  have c3 := c_stepped (fuel := fuel) (k := k) (by omega) hd hp x.role x.steps hxo.s [.lst (p.ss.map sE)]
  obtain ⟨f, ss', e3, hf⟩ := dn3_ok (fuel := fuel) (C := tabF L fuel k) (x1 := some p.e) (x2 := some (.int n)) (x4 := some (.str x.name)) (x5 := some (.int x.role)) (x7 := some x.when.e) (x8 := some (.tup (x.steps.map stE))) (x9 := some (.int x.times)) (x11 := some (csE (stepP d (p.view d (some x.role)) x.steps p.cs))) (x12 := none) hp.s hp.wr x.kind hxo.k w
  have j1 : ∀ H, index d.e (.int 5) H = some (.tup (d.dds.map Dd.e)) := fun H => by simp [Dl.e]
  have j2 : ∀ H, index (.tup (d.dds.map Dd.e)) (.int (n : Nat)) H = some x.e := fun H => index_at rfl (by simp [hx])
  have j3 : ∀ H, index p.e (.int 0) H = some (.int p.day) := fun H => by simp [Pc.e]
  have j4 : ∀ H, index d.e (.int 2) H = some (.int d.days) := fun H => by simp [Dl.e]
  have j5 : ∀ H, index p.e (.int 3) H = some (.tup (p.dn.map .int)) := fun H => by simp [Pc.e]
  have j6 : ∀ H, index (.tup (p.dn.map .int)) (.int (n : Nat)) H = some (.int y) := fun H => index_at rfl (by simp [hy])
  have j7 : ∀ H, index p.e (.int 2) H = some (.tup (p.ss.map sE)) := fun H => by simp [Pc.e]
  have j8 : ∀ H, index p.e (.int 4) H = some (.tup (p.ps.map .bl)) := fun H => by simp [Pc.e]
  have hput : ∀ q4 q5 q6 q7 q8 q9 q10 q11 q12, put (.t (.cons (.v 4) (.cons (.v 5) (.cons (.v 6) (.cons (.v 7) (.cons (.v 8) (.cons (.v 9) .nil))))))) x.e [some d.e, some p.e, some (.int n), some (vE w), q4, q5, q6, q7, q8, q9, q10, q11, q12] =
    some [some d.e, some p.e, some (.int n), some (vE w), some (.str x.name), some (.int x.role), some x.kind.e, some x.when.e, some (.tup (x.steps.map stE)), some (.int x.times), q10, q11, q12] := fun q4 q5 q6 q7 q8 q9 q10 q11 q12 => by simp [put, puts, Dd.e]
  have hg : p.dn.getD n 0 = y := by simp [List.getD_eq_getElem?_getD, hy]
  rw [tab_step (d := d__law_done) rfl]
  show (exs (tabF L fuel k) fuel b__law_done [some d.e, some p.e, some (.int n), some (vE w), none, none, none, none, none, none, none, none, none] []).bind (kRun false 0) = _
  rw [b_done_eq]
  unfold doneP
  simp only [hx, hg]
  by_cases b1 : d.days ≤ p.day
  · rw [if_pos (.inl b1)]
    simp [dn1, j1, j2, hput, j3, j4, b1, pE]; exact fin_0 rfl
  by_cases b2 : x.times ≤ y
  · rw [if_pos (.inr (.inl b2))]
    simp [dn1, j1, j2, hput, j3, j4, b1, j5, j6, b2, pE]; exact fin_0 rfl
  generalize p.view d (some x.role) = v at *
  cases b3 : x.when.val v with
  | false =>
    rw [if_pos (.inr (.inr rfl))]
    rw [b3] at c2
    simp [dn1, j1, j2, hput, j3, j4, b1, j5, j6, b2, c1, c2, pE]; exact fin_0 rfl
  | true =>
    rw [b3] at c2
    rw [if_neg (by simp [b1, b2])]
    generalize stepP d v x.steps p.cs = st at *
    generalize seelP d p.ss x.kind (vE w) = se at *
    cases st with
    | none =>
      simp only [csE] at c3
      simp [dn1, j1, j2, hput, j3, j4, b1, j5, j6, b2, c1, c2, j7, c3, pE]; exact fin_v rfl
    | some l =>
      simp only [csE] at c3 e3
      cases se with
      | none =>
        obtain rfl := hf
        simp [dn1, j1, j2, hput, j3, j4, b1, j5, j6, b2, c1, c2, j7, c3, e3, pE]; exact fin_v rfl
      | some s2 =>
        obtain ⟨rfl, rfl⟩ := hf
        have hd1 := hd.nd
        have hnl := hd.nl
        have hd2 := hd.nr
        obtain ⟨m1, m2, m3, m4⟩ := mid_ok (xs := p.dn.map D.int) (n := n) (by simpa using hnn) (by simp [hp.n]; omega) (.int (y + 1))
        have k5 := mul_t (x := .bl false) (n := p.ps.length) (by rw [hp.p]; omega)
        have hq : D.tup [.int p.day, .tup (l.map D.int), .tup (ss'.map sE), .tup ((p.dn.map D.int).set n (.int (y + 1))), .tup (List.replicate p.ps.length (.bl false))] = pE (some ⟨p.day, l, ss', p.dn.set n (y + 1), List.replicate d.roles.length false⟩) := by
          simp [pE, Pc.e, List.map_set, hp.p]
        have e4 : ∀ x4 x5 x6 x7 x8 x9, exs (tabF L fuel k) fuel dn4 [some d.e, some p.e, some (.int n), some (vE w), x4, x5, x6, x7, x8, x9, some (.ref 0), some (.tup (l.map D.int)), none] [.lst (ss'.map sE)] =
            some (.rt (pE (some ⟨p.day, l, ss', p.dn.set n (y + 1), List.replicate d.roles.length false⟩)), [some d.e, some p.e, some (.int n), some (vE w), x4, x5, x6, x7, x8, x9, some (.ref 0), some (.tup (l.map D.int)), some (.tup ((p.dn.map D.int).set n (.int (y + 1))))], [.lst (ss'.map sE)]) := fun x4 x5 x6 x7 x8 x9 => by
          simp only [dn4, exs_cons, ex_set, ev_bin, ev_slc, ev_idx, ev_var, ev_int, ev_tup, evs_cons, evs_nil, evO_no, evO_so, List.getElem?_cons_zero, List.getElem?_cons_succ, kvar_ap, Option.bind_some, kIdx_ap, kIdx2_ap, kOut_eq, j3, j5, j6, j8, kSlc_ap, kSlc2_ap, kSlc3_ap, kO_ap, m1, m2, m3, m4, k5, kBin_ap, kBin2_ap, kEs_ap, kEs2_ap, kTup_ap, add_i, List.set_cons_succ, List.set_cons_zero, kSet_ap, kSeq_nx, ex_ret, ev_blt, tup_r0, kBlt_ap, ev_bl, len_tup, List.length_map, kRet_ap, kSeq_rt, hq]
        simp [dn1, j1, j2, hput, j3, j4, b1, j5, j6, b2, c1, c2, j7, c3, e3, e4]
        exact fin_v (by simp)
theorem c_done {k : Nat} (hk : 12 ≤ k) {d : Dl} (hd : d.ok) {p : Pc} (hp : p.ok d) (n : Nat) (hn : n < d.dds.length) (w : Option Int) (h : AH) :
    callC (tabF L fuel k 38) [d.e, p.e, .int n, vE w] h = some (pE (doneP d p n (vE w)), h) := callV (by simp) (done_run hk hd hp n hn w) (by simp)
end PyD.K16

namespace PyD.K16
open PyD
variable {fuel : Nat}
/-! ### what a deed may be done with -/
def worthsP (d : Dl) (p : Pc) (n : Nat) : List (Option Int) := match d.dds[n]?.map Dd.kind with
  | some .plain => [none]
  | some (.ch j) => (List.range (((d.sls[j]?.map Se.top).getD 0) + 1)).map fun i : Nat => some (i : Int)
  | some (.op j) => match p.ss[j]? with
    | some (some (false, v)) => [some v]
    | _ => []
  | none => []
theorem worths_run {k : Nat} (hk : 1 ≤ k) {d : Dl} (hd : d.ok) {p : Pc} (hp : p.ok d) (n : Nat) (hn : n < d.dds.length) :
    tabF L fuel k 40 [d.e, p.e, .int n] [] = some (.lst ((worthsP d p n).map vE), []) ∧ (worthsP d p n).length ≤ 101 := by
  obtain ⟨k, rfl⟩ : ∃ m, k = m + 1 := ⟨k - 1, by omega⟩
  have hx : d.dds[n]? = some d.dds[n] := List.getElem?_eq_getElem hn
  have hxo := hd.dd _ (List.mem_of_getElem? hx)
  generalize d.dds[n] = x at hx hxo
  have j1 : ∀ H, index d.e (.int 5) H = some (.tup (d.dds.map Dd.e)) := fun H => by simp [Dl.e]
  have j2 : ∀ H, index (.tup (d.dds.map Dd.e)) (.int (n : Nat)) H = some x.e := fun H => index_at rfl (by simp [hx])
  have j3 : ∀ H, index x.e (.int 2) H = some x.kind.e := fun H => by simp [Dd.e]
  have j7 : ∀ H, index p.e (.int 2) H = some (.tup (p.ss.map sE)) := fun H => by simp [Pc.e]
  have j4 : ∀ H, index d.e (.int 4) H = some (.tup (d.sls.map Se.e)) := fun H => by simp [Dl.e]
  have kd := hxo.k
  have hwp : worthsP d p n = (match x.kind with
    | .plain => [none]
    | .ch j => (List.range (((d.sls[j]?.map Se.top).getD 0) + 1)).map fun i : Nat => some (i : Int)
    | .op j => match p.ss[j]? with
      | some (some (false, v)) => [some v]
      | _ => []) := by
    unfold worthsP; simp only [hx, Option.map_some]; cases x.kind <;> rfl
  rw [hwp, tab_step (d := d__law_worths) rfl]
  cases hq : x.kind with
  | plain => exact ⟨by simp [d__law_worths, b__law_worths, j1, j2, j3, hq, Kd.e]; exact fin_0 rfl, by simp⟩
  | ch j =>
    rw [hq] at kd
    have h2 : d.sls[j]? = some d.sls[j] := List.getElem?_eq_getElem kd
    have ht := hd.tp _ (List.getElem_mem kd)
    generalize d.sls[j] = s' at h2 ht
    have i2 : ∀ H, index (.tup (d.sls.map Se.e)) (.int (j : Nat)) H = some s'.e := fun H => index_at rfl (by rw [List.getElem?_map, h2]; rfl)
    have hr : rng 0 ((s'.top : Int) + 1) = some ((List.range (s'.top + 1)).map fun i => .int (i : Nat)) := by
      have := rng_n (n := s'.top + 1) (by omega)
      simpa using this
    obtain ⟨T, hT, hadd⟩ : ∃ T : Int, rng 0 T = some ((List.range (s'.top + 1)).map fun i => .int (i : Nat)) ∧ binop .add (.int (s'.top : Nat)) (.int 1) = some (.int T) := ⟨_, hr, rfl⟩
    clear hr
    simp only [h2, Option.map_some, Option.getD_some]
    refine ⟨?_, by rw [List.length_map, List.length_range]; omega⟩
    simp [d__law_worths, b__law_worths, j1, j2, j3, hq, Kd.e, j4, i2, Se.e, hT, hadd, -add_i]
    rw [fin_0]
    · simp [Function.comp_def, vE]
    · rw [closed_l]; exact closeds_map _ (fun _ => rfl) _
  | op j =>
    rw [hq] at kd
    have hjj : j < p.ss.length := by rw [hp.s]; exact kd
    have h1 : p.ss[j]? = some p.ss[j] := List.getElem?_eq_getElem hjj
    generalize p.ss[j] = s at h1
    have i1 : ∀ H, index (.tup (p.ss.map sE)) (.int (j : Nat)) H = some (sE s) := fun H => index_at rfl (by rw [List.getElem?_map, h1]; rfl)
    simp only [h1]
    rcases s with _ | ⟨o, v⟩
    · exact ⟨by simp [d__law_worths, b__law_worths, j1, j2, j3, hq, Kd.e, j7, i1, sE]; exact fin_0 rfl, by simp⟩
    · cases o with
      | true => exact ⟨by simp [d__law_worths, b__law_worths, j1, j2, j3, hq, Kd.e, j7, i1, sE]; exact fin_0 rfl, by simp⟩
      | false => exact ⟨by simp [d__law_worths, b__law_worths, j1, j2, j3, hq, Kd.e, j7, i1, sE]; exact fin_0 rfl, by simp⟩
theorem c_worths {k : Nat} (hk : 1 ≤ k) {d : Dl} (hd : d.ok) {p : Pc} (hp : p.ok d) (n : Nat) (hn : n < d.dds.length) (h : AH) :
    callC (tabF L fuel k 40) [d.e, p.e, .int n] h = some (.lst ((worthsP d p n).map vE), h) := callV (by simp) (worths_run (fuel := fuel) hk hd hp n hn).1 (by simp)
/-! ### rows -/
inductive Rw where
  | act (n : Nat) (w : Option Int) | pass (r : Nat) | dawn | call (n : Nat)
def Rw.e : Rw → D
  | .act n w => .tup [.str "do", .int n, vE w]
  | .pass r => .tup [.str "pass", .int r]
  | .dawn => .tup [.str "dawn"]
  | .call n => .tup [.str "call", .int n]
@[simp] theorem Rw.cl (r : Rw) : closed r.e = true := by cases r <;> simp [Rw.e]
def rpE (x : Rw × Pc) : D := .tup [x.1.e, x.2.e]
@[simp] theorem rpE_cl (x) : closed (rpE x) = true := by simp [rpE]
@[simp] theorem rpEs_cl (l) : closeds (List.map rpE l) = true := closeds_map _ rpE_cl l
def rwIn : Ss := (.cons (.set 5 (.call 38 (.cons (.var 0) (.cons (.var 1) (.cons (.var 3) (.cons (.var 4) .nil))))))
 (.cons (.ite (.cmp .isnot (.var 5) .non)
 (.cons (.expr (.app (.var 2) (.tup (.cons (.tup (.cons (.str "do") (.cons (.var 3) (.cons (.var 4) .nil)))) (.cons (.var 5) .nil)))))
 .nil)
 .nil)
 .nil))
def rwOut : Ss := (.cons (.for_ (.v 4) (.seq (.call 40 (.cons (.var 0) (.cons (.var 1) (.cons (.var 3) .nil))))) rwIn) .nil)
def rwPs : Ss := (.cons (.ite (.not (.var 7))
 (.cons (.expr (.app (.var 2) (.tup (.cons (.tup (.cons (.str "pass") (.cons (.var 6) .nil))) (.cons (.bin .add (.slc (.var 1) .no (.so (.int 4))) (.tup (.cons (.bin .add (.bin .add (.slc (.idx (.var 1) (.int 4)) .no (.so (.var 6))) (.tup (.cons (.bl true) .nil))) (.slc (.idx (.var 1) (.int 4)) (.so (.bin .add (.var 6) (.int 1))) .no)) .nil))) .nil)))))
 .nil)
 .nil)
 .nil)
def rwEnd : Ss := (.cons (.ite (.cmp .eq (.comp (.int 1) (.v 7) (.seq (.idx (.var 1) (.int 4))) (.so (.not (.var 7))) [7]) (.fv (.disp .nil)))
 (.cons (.expr (.app (.var 2) (.tup (.cons (.tup (.cons (.str "dawn") .nil)) (.cons (.call 39 (.cons (.var 1) .nil)) .nil)))))
 .nil)
 .nil)
 (.cons (.ret (.var 2))
 .nil))
theorem b_rows_eq : b__law_rows = .cons (.set 2 (.fm (.disp .nil)))
 (.cons (.ite (.cmp .ge (.idx (.var 1) (.int 0)) (.idx (.var 0) (.int 2)))
 (.cons (.ret (.var 2))
 .nil)
 .nil)
 (.cons (.for_ (.v 3) (.rng1 (.blt .len (.cons (.idx (.var 0) (.int 5)) .nil))) rwOut)
 (.cons (.for_ (.t (.cons (.v 6) (.cons (.v 7) .nil))) (.enum (.idx (.var 1) (.int 4))) rwPs) rwEnd))) := rfl
theorem eq_ones {n : Nat} (h : AH) : cmpop .eq (.lst (List.replicate n (.int 1))) (.lst []) h = some (n == 0) := by
  have c : closeds (List.replicate n (D.int 1)) = true := rep_cl _ _ rfl
  have dd : ∀ n, depDs (List.replicate n (D.int 1)) = 0 := fun n => by
    induction n with
    | zero => rfl
    | succ n ih => simp [List.replicate_succ, depDs, ih, depD]
  show eqO _ _ _ = _
  unfold eqO rsv
  simp only [closed, c, closeds, depD, dd, depDs, Bool.and_true, Bool.true_and]
  cases n with
  | zero => rfl
  | succ n => simp [List.replicate_succ, eqD, eqDs]
theorem ne_ones {n : Nat} (h : AH) : cmpop .ne (.lst (List.replicate n (.int 1))) (.lst []) h = some (!(n == 0)) := by
  have := eq_ones (n := n) h
  show (eqO _ _ _).map not = _
  have e : eqO (.lst (List.replicate n (.int 1))) (.lst []) h = some (n == 0) := this
  rw [e]; rfl
def actP (d : Dl) (p : Pc) (n : Nat) (w : Option Int) : Option (Rw × Pc) := (doneP d p n (vE w)).map fun q => (Rw.act n w, q)
theorem inner_ok {k : Nat} (hk : 12 ≤ k) {d : Dl} (hd : d.ok) {p : Pc} (hp : p.ok d) (n : Nat) (hn : n < d.dds.length) (ws : List (Option Int)) (hw : ws.length ≤ 101) (x4 x5 x6 x7 : Option D) (rs : List (Rw × Pc)) (hl : rs.length ≤ 101 * n) :
    ∃ (y4 y5 : Option D), forL (.v 4) none ws.length (exs (tabF L fuel k) fuel rwIn) (ws.map vE) 0 [some d.e, some p.e, some (.ref 0), some (.int n), x4, x5, x6, x7] [.lst (rs.map rpE)] =
      some (.nx, [some d.e, some p.e, some (.ref 0), some (.int n), y4, y5, x6, x7], [.lst ((rs ++ ws.filterMap (actP d p n)).map rpE)]) := by
  have hnd := hd.nd
  have hnl := hd.nl
  obtain ⟨f, σ', h', hw', rfl, y4, y5, rfl, rfl⟩ := for_ix (tg := .v 4) (len := ws.length) (b := exs (tabF L fuel k) fuel rwIn) (ws.map vE)
    (fun m σ h => ∃ (y4 y5 : Option D), σ = [some d.e, some p.e, some (.ref 0), some (.int n), y4, y5, x6, x7] ∧ h = [.lst ((rs ++ (ws.take m).filterMap (actP d p n)).map rpE)])
    (fun f σ h => f = .nx ∧ ∃ (y4 y5 : Option D), σ = [some d.e, some p.e, some (.ref 0), some (.int n), y4, y5, x6, x7] ∧ h = [.lst ((rs ++ ws.filterMap (actP d p n)).map rpE)])
    (fun σ h ⟨y4, y5, e1, e2⟩ => ⟨rfl, y4, y5, e1, by rw [e2, List.take_of_length_le]; simp⟩)
    (fun m x σ h hx ⟨y4, y5, e1, e2⟩ => by
      subst e1; subst e2
      have hm := (List.getElem?_eq_some_iff.mp hx).1
      simp at hm
      rw [List.getElem?_map, List.getElem?_eq_getElem hm] at hx
      simp only [Option.map_some, Option.some.injEq] at hx
      subst hx
      have hwm : ws[m]? = some ws[m] := List.getElem?_eq_getElem hm
      have hz : (rs ++ (ws.take (m + 1)).filterMap (actP d p n)).map rpE = (rs ++ (ws.take m).filterMap (actP d p n)).map rpE ++ ((actP d p n ws[m]).map rpE).toList := by
        rw [List.take_add_one, hwm, List.filterMap_append, ← List.append_assoc, List.map_append]
        congr 1
        cases hq : actP d p n ws[m] <;> simp [hq]
      generalize ws[m] = w at hz hwm
      have hlen : ((rs ++ (ws.take m).filterMap (actP d p n)).map rpE).length < lim := by
        have := List.length_filterMap_le (actP d p n) (ws.take m)
        simp only [List.length_map, List.length_append, lim]
        simp only [List.length_take] at this
        omega
      generalize (rs ++ (ws.take m).filterMap (actP d p n)).map rpE = A at hz hlen
      have c := c_done (fuel := fuel) hk hd hp n hn w [.lst A]
      have ha : ∀ y : D, kApp2 (.ref 0) (y, [.lst A]) = some (.non, [.lst (A ++ [y])]) := fun y => app_r0 hlen
      refine ⟨[some d.e, some p.e, some (.ref 0), some (.int n), some (vE w), y5, x6, x7], by simp [put], .nx, [some d.e, some p.e, some (.ref 0), some (.int n), some (vE w), some (pE (doneP d p n (vE w))), x6, x7], [.lst ((rs ++ (ws.take (m + 1)).filterMap (actP d p n)).map rpE)], ?_, _, _, rfl, rfl⟩
      rw [hz]
      unfold actP
      cases ho : doneP d p n (vE w) with
      | none =>
        rw [ho] at c
        simp only [pE] at c
        simp [rwIn, c, pE]
      | some q =>
        rw [ho] at c
        simp only [pE] at c
        have hne : cmpop .isnot q.e .non [.lst A] = some true := rfl
        simp only [rwIn, exs_cons, ex_set, ev_call, evs_cons, evs_nil, ev_var, List.getElem?_cons_zero, List.getElem?_cons_succ, kvar_ap, Option.bind_some, kEs_ap, kEs2_ap, kCall_ap, c, kSet_ap, List.set_cons_zero, List.set_cons_succ, kSeq_nx, ex_ite, tst_eq, ev_cmp, kCmp_ap, ev_non, kCmp2_ap, hne, kOutB_eq, kTst_ap, truth_bl, kTst2_ap, kIf_t, ex_expr, ev_app, kApp_ap, lit0, ev_tup, ev_str, kTup_ap, ha, kExpr_ap, exs_nil]
        simp [rpE, Rw.e, pE])
    [some d.e, some p.e, some (.ref 0), some (.int n), x4, x5, x6, x7] [.lst (rs.map rpE)] ⟨x4, x5, rfl, by simp⟩
  exact ⟨y4, y5, hw'⟩
end PyD.K16

namespace PyD.K16
open PyD
variable {fuel : Nat}
def notB : D → Bool
  | .bl b => !b
  | _ => false
def passP (p : Pc) (m : Nat) : Pc := ⟨p.day, p.cs, p.ss, p.dn, p.ps.set m true⟩
theorem passP_ok {d : Dl} {p : Pc} (h : p.ok d) (m : Nat) : (passP p m).ok d := ⟨h.c, h.s, h.n, h.dy, h.wr, by simp [passP, h.p]⟩
def pasP (p : Pc) (m : Nat) : Option (Rw × Pc) := if p.ps.getD m true then none else some (.pass m, passP p m)
theorem pass_ok {C : Nat → Fun} {d : Dl} (hd : d.ok) {p : Pc} (hp : p.ok d) (x3 x4 x5 : Option D) (rs : List (Rw × Pc)) (hl : rs.length ≤ 20000) :
    ∃ (y6 y7 : Option D), forL (.t (.cons (.v 6) (.cons (.v 7) .nil))) none ((p.ps.map D.bl).mapIdx fun i d => D.tup [.int i, d]).length (exs C fuel rwPs) ((p.ps.map D.bl).mapIdx fun i d => D.tup [.int i, d]) 0 [some d.e, some p.e, some (.ref 0), x3, x4, x5, none, none] [.lst (rs.map rpE)] =
      some (.nx, [some d.e, some p.e, some (.ref 0), x3, x4, x5, y6, y7], [.lst ((rs ++ (List.range p.ps.length).filterMap (pasP p)).map rpE)]) := by
  have hnr := hd.nr
  have hps := hp.p
  obtain ⟨f, σ', h', hw', rfl, y6, y7, rfl, rfl⟩ := for_ix (tg := .t (.cons (.v 6) (.cons (.v 7) .nil))) (len := ((p.ps.map D.bl).mapIdx fun i d => D.tup [.int i, d]).length) (b := exs C fuel rwPs) ((p.ps.map D.bl).mapIdx fun i d => D.tup [.int i, d])
    (fun m σ h => ∃ (y6 y7 : Option D), σ = [some d.e, some p.e, some (.ref 0), x3, x4, x5, y6, y7] ∧ h = [.lst ((rs ++ (List.range m).filterMap (pasP p)).map rpE)])
    (fun f σ h => f = .nx ∧ ∃ (y6 y7 : Option D), σ = [some d.e, some p.e, some (.ref 0), x3, x4, x5, y6, y7] ∧ h = [.lst ((rs ++ (List.range p.ps.length).filterMap (pasP p)).map rpE)])
    (fun σ h ⟨y6, y7, e1, e2⟩ => ⟨rfl, y6, y7, e1, by rw [e2]; simp⟩)
    (fun m x σ h hx ⟨y6, y7, e1, e2⟩ => by
      subst e1; subst e2
      have hm := (List.getElem?_eq_some_iff.mp hx).1
      simp at hm
      rw [List.getElem?_mapIdx, List.getElem?_map, List.getElem?_eq_getElem hm] at hx
      simp only [Option.map_some, Option.some.injEq] at hx
      subst hx
      have hg : p.ps.getD m true = p.ps[m] := by simp [List.getD_eq_getElem?_getD, List.getElem?_eq_getElem hm]
      have hz : (rs ++ (List.range (m + 1)).filterMap (pasP p)).map rpE = (rs ++ (List.range m).filterMap (pasP p)).map rpE ++ ((pasP p m).map rpE).toList := by
        rw [List.range_succ, List.filterMap_append, ← List.append_assoc, List.map_append]
        congr 1
        cases hq : pasP p m <;> simp [hq]
      have hlen : ((rs ++ (List.range m).filterMap (pasP p)).map rpE).length < lim := by
        have := List.length_filterMap_le (pasP p) (List.range m)
        simp only [List.length_map, List.length_append, lim]
        simp only [List.length_range] at this
        omega
      have hpm : pasP p m = if p.ps[m] then none else some (.pass m, passP p m) := by unfold pasP; rw [hg]
      rw [hpm] at hz
      generalize (rs ++ (List.range m).filterMap (pasP p)).map rpE = A at hz hlen
      generalize p.ps[m] = b at hz
      cases b with
      | true => exact ⟨[some d.e, some p.e, some (.ref 0), x3, x4, x5, some (.int m), some (.bl true)], by simp [put, puts], .nx, [some d.e, some p.e, some (.ref 0), x3, x4, x5, some (.int m), some (.bl true)], [.lst ((rs ++ (List.range (m + 1)).filterMap (pasP p)).map rpE)], by rw [hz]; simp [rwPs], _, _, rfl, rfl⟩
      | false =>
        have j8 : ∀ H, index p.e (.int 4) H = some (.tup (p.ps.map .bl)) := fun H => by simp [Pc.e]
        obtain ⟨k1, k2, k3, k4⟩ := mid_ok (xs := p.ps.map D.bl) (n := m) (by simpa using hm) (by simp; omega) (.bl true)
        have k5 : ∀ a, binop .add (.tup (cut [.int p.day, .tup (p.cs.map .int), .tup (p.ss.map sE), .tup (p.dn.map .int), .tup (p.ps.map .bl)] none (some 4))) (.tup [a]) = some (.tup [.int p.day, .tup (p.cs.map .int), .tup (p.ss.map sE), .tup (p.dn.map .int), a]) := fun a => by
          have : cut [.int p.day, .tup (p.cs.map .int), .tup (p.ss.map sE), .tup (p.dn.map .int), .tup (p.ps.map .bl)] none (some 4) = [.int p.day, .tup (p.cs.map .int), .tup (p.ss.map sE), .tup (p.dn.map .int)] := cut_to (n := 4) (by simp)
          rw [this]; exact add_t (by simp [lim])
        have hsl : ∀ H, kSlc3 p.e none (some 4, H) = some (.tup (cut [.int p.day, .tup (p.cs.map .int), .tup (p.ss.map sE), .tup (p.dn.map .int), .tup (p.ps.map .bl)] none (some 4)), H) := fun H => rfl
        have hqe : (D.tup [.int p.day, .tup (p.cs.map .int), .tup (p.ss.map sE), .tup (p.dn.map .int), .tup ((p.ps.map D.bl).set m (.bl true))]) = (passP p m).e := by simp [Pc.e, passP, List.map_set]
        have ha : ∀ y : D, kApp2 (.ref 0) (y, [.lst A]) = some (.non, [.lst (A ++ [y])]) := fun y => app_r0 hlen
        refine ⟨[some d.e, some p.e, some (.ref 0), x3, x4, x5, some (.int m), some (.bl false)], by simp [put, puts], .nx, [some d.e, some p.e, some (.ref 0), x3, x4, x5, some (.int m), some (.bl false)], [.lst ((rs ++ (List.range (m + 1)).filterMap (pasP p)).map rpE)], ?_, _, _, rfl, rfl⟩
        rw [hz]
        simp only [rwPs, exs_cons, exs_nil, ex_ite, tst_eq, ev_not, ev_var, List.getElem?_cons_zero, List.getElem?_cons_succ, kvar_ap, Option.bind_some, kNot_ap, truth_bl, kNot2_ap, kTst_ap, kTst2_ap, Bool.not_false, kIf_t, ex_expr, ev_app, kApp_ap, lit0, ev_tup, evs_cons, evs_nil, ev_str, ev_int, kEs_ap, kEs2_ap, kTup_ap, ev_bin, ev_slc, ev_idx, kIdx_ap, kIdx2_ap, kOut_eq, j8, kSlc_ap, kSlc2_ap, evO_no, evO_so, kO_ap, hsl, kSlc3_ap, k1, k2, k3, k4, k5, kBin_ap, kBin2_ap, ev_bl, add_i, hqe, ha, kExpr_ap, kSeq_nx]
        simp [rpE, Rw.e])
    [some d.e, some p.e, some (.ref 0), x3, x4, x5, none, none] [.lst (rs.map rpE)] ⟨none, none, rfl, by simp⟩
  exact ⟨y6, y7, hw'⟩
def rowsP (d : Dl) (p : Pc) : List (Rw × Pc) := if d.days ≤ p.day then [] else ((List.range d.dds.length).flatMap fun n => (worthsP d p n).filterMap (actP d p n)) ++ (List.range p.ps.length).filterMap (pasP p) ++ (if p.ps.all id then [(Rw.dawn, p.dawn)] else [])
theorem notB_len (l : List Bool) : (((l.map D.bl).filter notB).length == 0) = l.all id := by
  induction l with
  | nil => rfl
  | cons a l ih => cases a <;> simp [notB] at ih ⊢; simpa [notB] using ih
theorem rows_run {k : Nat} (hk : 13 ≤ k) {d : Dl} (hd : d.ok) {p : Pc} (hp : p.ok d) :
    tabF L fuel k 41 [d.e, p.e] [] = some (.lst ((rowsP d p).map rpE), []) ∧ (rowsP d p).length ≤ 12000 := by
  obtain ⟨k, rfl⟩ : ∃ m, k = m + 1 := ⟨k - 1, by omega⟩
  have j3 : ∀ H, index p.e (.int 0) H = some (.int p.day) := fun H => by simp [Pc.e]
  have j4 : ∀ H, index d.e (.int 2) H = some (.int d.days) := fun H => by simp [Dl.e]
  have j5 : ∀ H, index d.e (.int 5) H = some (.tup (d.dds.map Dd.e)) := fun H => by simp [Dl.e]
  have j8 : ∀ H, index p.e (.int 4) H = some (.tup (p.ps.map .bl)) := fun H => by simp [Pc.e]
  have hnd := hd.nd
  have hnr := hd.nr
  have hps := hp.p
  rw [tab_step (d := d__law_rows) rfl]
  show (exs (tabF L fuel k) fuel b__law_rows [some d.e, some p.e, none, none, none, none, none, none] []).bind (kRun false 0) = _ ∧ _
  rw [b_rows_eq]
  unfold rowsP
  by_cases b1 : d.days ≤ p.day
  · rw [if_pos b1]
    exact ⟨by simp [j3, j4, b1]; exact fin_r rfl, by simp⟩
  rw [if_neg b1]
  have hrng : rng 0 (d.dds.length : Nat) = some ((List.range d.dds.length).map fun i => .int (i : Nat)) := rng_n (by omega)
  let G : Nat → List (Rw × Pc) := fun n => (worthsP d p n).filterMap (actP d p n)
  have hG : ∀ m, m ≤ d.dds.length → ((List.range m).flatMap G).length ≤ 101 * m := fun m => by
    induction m with
    | zero => intro _; simp
    | succ m ih =>
      intro hm
      have h1 := ih (by omega)
      have h2 := List.length_filterMap_le (actP d p m) (worthsP d p m)
      have h3 := (worths_run (fuel := fuel) (k := 1) (by omega) hd hp m (by omega)).2
      rw [List.range_succ, List.flatMap_append, List.length_append]
      simp only [List.flatMap_cons, List.flatMap_nil, List.append_nil, G] at h1 ⊢
      omega
  obtain ⟨f, σ', h', hw1, rfl, y3, y4, y5, rfl, rfl⟩ := for_ix (tg := .v 3) (len := d.dds.length) (b := exs (tabF L fuel k) fuel rwOut) ((List.range d.dds.length).map fun i => D.int (i : Nat))
    (fun m σ h => ∃ (y3 y4 y5 : Option D), σ = [some d.e, some p.e, some (.ref 0), y3, y4, y5, none, none] ∧ h = [.lst (((List.range m).flatMap G).map rpE)])
    (fun f σ h => f = .nx ∧ ∃ (y3 y4 y5 : Option D), σ = [some d.e, some p.e, some (.ref 0), y3, y4, y5, none, none] ∧ h = [.lst (((List.range d.dds.length).flatMap G).map rpE)])
    (fun σ h ⟨y3, y4, y5, e1, e2⟩ => ⟨rfl, y3, y4, y5, e1, by rw [e2]; simp⟩)
    (fun m x σ h hx ⟨y3, y4, y5, e1, e2⟩ => by
      subst e1; subst e2
      have hm := (List.getElem?_eq_some_iff.mp hx).1
      simp at hm
      rw [List.getElem?_map, List.getElem?_range hm] at hx
      simp only [Option.map_some, Option.some.injEq] at hx
      subst hx
      have c := c_worths (fuel := fuel) (k := k) (by omega) hd hp m hm [.lst (((List.range m).flatMap G).map rpE)]
      have hws := (worths_run (fuel := fuel) (k := 1) (by omega) hd hp m hm).2
      obtain ⟨z4, z5, e⟩ := inner_ok (fuel := fuel) (k := k) (by omega) hd hp m hm (worthsP d p m) hws y4 y5 none none _ (hG m (by omega))
      have hz : (List.range (m + 1)).flatMap G = (List.range m).flatMap G ++ (worthsP d p m).filterMap (actP d p m) := by
        rw [List.range_succ, List.flatMap_append]; simp [G]
      rw [← hz] at e
      refine ⟨[some d.e, some p.e, some (.ref 0), some (.int m), y4, y5, none, none], by simp [put], .nx, _, _, ?_, some (.int m), z4, z5, rfl, rfl⟩
      simp [rwOut, c, kFor_ap]
      rw [e]
      simp)
    [some d.e, some p.e, some (.ref 0), none, none, none, none, none] [.lst []] ⟨none, none, none, rfl, rfl⟩
  have hGl := hG d.dds.length (Nat.le_refl _)
  show _ = some (D.lst (((List.range d.dds.length).flatMap G ++ _ ++ _).map rpE), []) ∧ ((List.range d.dds.length).flatMap G ++ _ ++ _).length ≤ _
  generalize (List.range d.dds.length).flatMap G = R1 at *
  obtain ⟨y6, y7, hw2⟩ := pass_ok (fuel := fuel) (C := tabF L fuel k) hd hp y3 y4 y5 R1 (by omega)
  have hPl := List.length_filterMap_le (pasP p) (List.range p.ps.length)
  simp only [List.length_range] at hPl
  generalize hR2 : R1 ++ (List.range p.ps.length).filterMap (pasP p) = R2 at *
  have hR2l : R2.length ≤ 10200 + 0 := by rw [← hR2]; simp only [List.length_append]; omega
  have cc := compL_map (σ := [some d.e, some p.e, some (.ref 0), y3, y4, y5, y6, none]) (tg := .v 7) (len := p.ps.length) (c := tstO (tabF L fuel k) (.so (.not (.var 7)))) (e := ev (tabF L fuel k) (.int 1)) (h := [.lst (R2.map rpE)]) notB (fun _ => .int 1) (p.ps.map .bl) 0 (fun x hx => by
    obtain ⟨b, _, rfl⟩ := List.mem_map.mp hx
    exact ⟨[some d.e, some p.e, some (.ref 0), y3, y4, y5, y6, some (.bl b)], by simp [put], by simp [notB], by simp⟩)
  rw [List.map_const'] at cc
  have hnn := notB_len p.ps
  generalize ((p.ps.map D.bl).filter notB).length = nn at cc hnn
  have hl : p.ps.length ≤ lim := by simp [lim]; omega
  have c3 := c_dawn (fuel := fuel) (k := k) (by omega) hd hp [.lst (R2.map rpE)]
  have ee := eq_ones (n := nn) [.lst (R2.map rpE)]
  rw [hnn] at ee
  have ha : kApp2 (.ref 0) (.tup [.tup [.str "dawn"], p.dawn.e], [.lst (R2.map rpE)]) = some (.non, [.lst (R2.map rpE ++ [.tup [.tup [.str "dawn"], p.dawn.e]])]) := app_r0 (by simp [lim]; omega)
  simp only [List.length_mapIdx, List.length_map] at hw2
  have start : exs (tabF L fuel k) fuel rwEnd [some d.e, some p.e, some (.ref 0), y3, y4, y5, y6, y7] [.lst (R2.map rpE)] =
      some (.rt (.ref 0), [some d.e, some p.e, some (.ref 0), y3, y4, y5, y6, y7], [.lst ((R2 ++ (if p.ps.all id then [(Rw.dawn, p.dawn)] else [])).map rpE)]) := by
    cases hb : p.ps.all id with
    | true =>
      rw [hb] at ee
      simp [rwEnd, j8, kComp_ap, hl]
      rw [cc]
      simp [ee, c3, ha, rpE, Rw.e]
    | false =>
      rw [hb] at ee
      simp [rwEnd, j8, kComp_ap, hl]
      rw [cc]
      simp [ee]
  refine ⟨?_, ?_⟩
  · generalize R2 ++ (if p.ps.all id then [(Rw.dawn, p.dawn)] else []) = RR at start ⊢
    simp [j3, j4, b1, j5, hrng, kFor_ap]
    rw [hw1]
    simp [j8, kFor_ap]
    rw [hw2]
    simp only [Option.bind_some, kSeq_nx, start, kRun_rt, List.length_nil]
    exact fin_r (rpEs_cl _)
  · simp only [List.length_append]
    split <;> simp <;> omega
theorem c_rows {k : Nat} (hk : 13 ≤ k) {d : Dl} (hd : d.ok) {p : Pc} (hp : p.ok d) (h : AH) : callC (tabF L fuel k 41) [d.e, p.e] h = some (.lst ((rowsP d p).map rpE), h) := callV (by simp) (rows_run hk hd hp).1 (by simp)
/-- what can be is a place -/
theorem rowsP_ok {d : Dl} {p : Pc} (hp : p.ok d) : ∀ x ∈ rowsP d p, x.2.ok d := by
  intro x hx
  unfold rowsP at hx
  split at hx
  · cases hx
  rename_i hb
  rcases List.mem_append.mp hx with hx | hx
  · rcases List.mem_append.mp hx with hx | hx
    · obtain ⟨n, _, hn⟩ := List.mem_flatMap.mp hx
      obtain ⟨w, _, hw⟩ := List.mem_filterMap.mp hn
      simp only [actP, Option.map_eq_some_iff] at hw
      obtain ⟨q, hq, rfl⟩ := hw
      exact (doneP_ok hp hq).1
    · obtain ⟨m, _, hm⟩ := List.mem_filterMap.mp hx
      simp only [pasP] at hm
      split at hm
      · cases hm
      · cases hm; exact passP_ok hp m
  · split at hx
    · cases List.mem_singleton.mp hx
      exact Pc.dawn_ok hp (by omega)
    · cases hx
end PyD.K16

namespace PyD.K16
open PyD
variable {fuel : Nat}
/-! ### keys -/
theorem keyOks_map {α : Type} (f : α → D) (hf : ∀ a, keyOk (f a) = true) : ∀ l : List α, keyOks (l.map f) = true
  | [] => rfl
  | a :: l => by simp [keyOks, hf a, keyOks_map f hf l]
theorem depDs_map {α : Type} (f : α → D) (n : Nat) (hf : ∀ a, depD (f a) ≤ n) : ∀ l : List α, depDs (l.map f) ≤ n
  | [] => Nat.zero_le _
  | a :: l => by
    have h1 := hf a
    have h2 := depDs_map f n hf l
    simp only [List.map_cons, depDs]; omega
theorem Pc.key (p : Pc) : kyD p.e = true := by
  have k1 := keyOks_map D.int (fun _ => rfl) p.cs
  have k2 := keyOks_map sE (fun s => by rcases s with _ | ⟨o, w⟩ <;> rfl) p.ss
  have k3 := keyOks_map D.int (fun _ => rfl) p.dn
  have k4 := keyOks_map D.bl (fun _ => rfl) p.ps
  have d1 := depDs_map D.int 0 (fun _ => Nat.le_refl _) p.cs
  have d2 := depDs_map sE 1 (fun s => by rcases s with _ | ⟨o, w⟩ <;> simp [sE, depD, depDs]) p.ss
  have d3 := depDs_map D.int 0 (fun _ => Nat.le_refl _) p.dn
  have d4 := depDs_map D.bl 0 (fun _ => Nat.le_refl _) p.ps
  simp only [kyD, Pc.e, keyOk, keyOks, k1, k2, k3, k4, depD, depDs, tupOf, Option.isSome_some, Bool.and_self, Bool.and_true, Bool.true_and, decide_eq_true_eq]
  omega
def isDo : D → Bool
  | .tup [.tup (.str s :: _), _] => s == "do"
  | _ => false
def sndD : D → D
  | .tup [_, b] => b
  | x => x
def smF : Ss := (.cons (.ite (.inD true (.var 8) (.var 3))
 (.cons (.setD (.var 3) (.var 8) (.bl true))
 (.cons (.expr (.app (.var 4) (.var 8)))
 .nil))
 .nil)
 .nil)
def smB : Ss := (.cons (.set 6 (.idx (.var 4) (.var 5)))
 (.cons (.set 7 (.fv (.cat (.comp (.var 8) (.t (.cons (.v 9) (.cons (.v 8) .nil))) (.seq (.call 41 (.cons (.var 0) (.cons (.var 6) .nil)))) (.so (.cmp .eq (.idx (.var 9) (.int 0)) (.str "do"))) [9, 8]) (.ite (.cmp .lt (.idx (.var 6) (.int 0)) (.idx (.var 0) (.int 2))) (.fv (.disp (.cons (.call 39 (.cons (.var 6) .nil)) .nil))) (.fv (.disp .nil))))))
 (.cons (.for_ (.v 8) (.seq (.var 7)) smF)
 (.cons (.set 5 (.bin .add (.var 5) (.int 1)))
 .nil))))
def smC : Ex := (.bop true (.cons (.cmp .lt (.var 5) (.blt .len (.cons (.var 4) .nil))) (.cons (.cmp .le (.blt .len (.cons (.var 4) .nil)) (.var 1)) .nil)))
theorem b_small_eq : b__law_is_small = .cons (.set 2 (.call 36 (.cons (.var 0) .nil)))
 (.cons (.par3 3 4 5 (.dct1 (.var 2) (.bl true)) (.fm (.disp (.cons (.var 2) .nil))) (.int 0))
 (.cons (.whl smC smB)
 (.cons (.ret (.cmp .le (.blt .len (.cons (.var 4) .nil)) (.var 1)))
 .nil))) := rfl
theorem smF_ok {C : Nat → Fun} {d : Dl} (bl : List Pc) (hb : ∀ q ∈ bl, q.ok d) (kvs : List (D × D)) (ls : List Pc) (hls : ∀ q ∈ ls, q.ok d) (h1 : kvs.length ≤ 700) (h2 : ls.length ≤ 700) (hn : bl.length ≤ 13000) (x0 x1 x2 x5 x6 x7 x8 x9 : Option D) :
    ∃ (kvs' : List (D × D)) (ls' : List Pc) (y8 : Option D), forL (.v 8) none (bl.map Pc.e).length (exs C fuel smF) (bl.map Pc.e) 0 [x0, x1, x2, some (.ref 0), some (.ref 1), x5, x6, x7, x8, x9] [.dct kvs, .lst (ls.map Pc.e)] =
      some (.nx, [x0, x1, x2, some (.ref 0), some (.ref 1), x5, x6, x7, y8, x9], [.dct kvs', .lst (ls'.map Pc.e)]) ∧ (∀ q ∈ ls', q.ok d) ∧ (kvs'.length - kvs.length) ≤ ls'.length - ls.length ∧ ls'.length ≤ 14000 ∧ ls.length ≤ ls'.length := by
  obtain ⟨f, σ', h', hw', rfl, kvs', ls', y8, rfl, rfl, g1, g2, g3, g4⟩ := for_ix (tg := .v 8) (len := (bl.map Pc.e).length) (b := exs C fuel smF) (bl.map Pc.e)
    (fun m σ h => ∃ (kvs' : List (D × D)) (ls' : List Pc) (y8 : Option D), σ = [x0, x1, x2, some (.ref 0), some (.ref 1), x5, x6, x7, y8, x9] ∧ h = [.dct kvs', .lst (ls'.map Pc.e)] ∧ (∀ q ∈ ls', q.ok d) ∧ kvs'.length ≤ 700 + m ∧ ls'.length ≤ 700 + m ∧ ls.length ≤ ls'.length ∧ (kvs'.length - kvs.length) ≤ ls'.length - ls.length)
    (fun f σ h => f = .nx ∧ ∃ (kvs' : List (D × D)) (ls' : List Pc) (y8 : Option D), σ = [x0, x1, x2, some (.ref 0), some (.ref 1), x5, x6, x7, y8, x9] ∧ h = [.dct kvs', .lst (ls'.map Pc.e)] ∧ (∀ q ∈ ls', q.ok d) ∧ (kvs'.length - kvs.length) ≤ ls'.length - ls.length ∧ ls'.length ≤ 14000 ∧ ls.length ≤ ls'.length)
    (fun σ h ⟨kvs', ls', y8, e1, e2, g1, g2, g3, g4, g5⟩ => ⟨rfl, kvs', ls', y8, e1, e2, g1, g5, by simp at g3; omega, g4⟩)
    (fun m x σ h hx ⟨kvs', ls', y8, e1, e2, g1, g2, g3, g4, g5⟩ => by
      subst e1; subst e2
      have hm := (List.getElem?_eq_some_iff.mp hx).1
      simp at hm
      obtain ⟨q, hq, rfl⟩ := List.mem_map.mp (List.mem_of_getElem? hx)
      have c1 : kInD2 true q.e (.ref 0, [.dct kvs', .lst (ls'.map Pc.e)]) = some (.bl ((dget kvs' q.e).isSome != true), [.dct kvs', .lst (ls'.map Pc.e)]) := kInD2_ap (n := 0) rfl q.key
      cases hg : (dget kvs' q.e).isSome with
      | true =>
        rw [hg] at c1
        exact ⟨[x0, x1, x2, some (.ref 0), some (.ref 1), x5, x6, x7, some q.e, x9], by simp [put], .nx, [x0, x1, x2, some (.ref 0), some (.ref 1), x5, x6, x7, some q.e, x9], [.dct kvs', .lst (ls'.map Pc.e)], by simp [smF, c1], kvs', ls', some q.e, rfl, rfl, g1, by omega, by omega, g4, g5⟩
      | false =>
        rw [hg] at c1
        have c2 : ∀ σ, kSd3 σ (.bl true) (.ref 0) (q.e, [.dct kvs', .lst (ls'.map Pc.e)]) = some (.nx, σ, [.dct (dput kvs' q.e (.bl true)), .lst (ls'.map Pc.e)]) := fun σ => kSd3_ap (n := 0) (h := [.dct kvs', .lst (ls'.map Pc.e)]) rfl q.key (by simp [lim]; omega)
        have hdl := dput_length kvs' q.e (.bl true)
        generalize dput kvs' q.e (.bl true) = kv2 at c2 hdl
        have c3 : kApp2 (.ref 1) (q.e, [.dct kv2, .lst (ls'.map Pc.e)]) = some (.non, [.dct kv2, .lst (ls'.map Pc.e ++ [q.e])]) := app_r1 (by simp [lim]; omega)
        refine ⟨[x0, x1, x2, some (.ref 0), some (.ref 1), x5, x6, x7, some q.e, x9], by simp [put], .nx, [x0, x1, x2, some (.ref 0), some (.ref 1), x5, x6, x7, some q.e, x9], [.dct kv2, .lst ((ls' ++ [q]).map Pc.e)], by simp [smF, c1, c2, c3], kv2, ls' ++ [q], _, rfl, rfl, fun y hy => ?_, by omega, by simp; omega, by simp; omega, by simp; omega⟩
        rcases List.mem_append.mp hy with hy | hy
        · exact g1 y hy
        · cases List.mem_singleton.mp hy
          exact hb _ hq)
    [x0, x1, x2, some (.ref 0), some (.ref 1), x5, x6, x7, x8, x9] [.dct kvs, .lst (ls.map Pc.e)] ⟨kvs, ls, x8, rfl, rfl, hls, by omega, by omega, Nat.le_refl _, by omega⟩
  exact ⟨kvs', ls', y8, hw', g1, g2, g3, g4⟩
theorem small_run {k : Nat} (hk : 14 ≤ k) (hf : 700 ≤ fuel) (M : Nat) (hM : M ≤ 500) {d : Dl} (hd : d.ok) : ∃ b, tabF L fuel k 42 [d.e, .int (M : Nat)] [] = some (.bl b, []) := by
  obtain ⟨k, rfl⟩ : ∃ m, k = m + 1 := ⟨k - 1, by omega⟩
  rw [tab_step (d := d__law_is_small) rfl]
  show ∃ b, (exs (tabF L fuel k) fuel b__law_is_small [some d.e, some (.int (M : Nat)), none, none, none, none, none, none, none, none] []).bind (kRun false 0) = _
  rw [b_small_eq]
  have c0 := c_first (fuel := fuel) (k := k) (by omega) hd []
  have j4 : ∀ H, index d.e (.int 2) H = some (.int d.days) := fun H => by simp [Dl.e]
  obtain ⟨f, σ', h', hw, rfl, kvs, ls, m, q6, q7, q8, rfl, rfl⟩ := while_ok (c := tst (tabF L fuel k) smC) (b := exs (tabF L fuel k) fuel smB)
    (fun n σ h => ∃ (kvs : List (D × D)) (ls : List Pc) (m : Nat) (q6 q7 q8 : Option D), σ = [some d.e, some (.int (M : Nat)), some d.first.e, some (.ref 0), some (.ref 1), some (.int (m : Nat)), q6, q7, q8, none] ∧ h = [.dct kvs, .lst (ls.map Pc.e)] ∧ (∀ q ∈ ls, q.ok d) ∧ kvs.length ≤ ls.length ∧ n = M + 1 - m ∧ m ≤ M)
    (fun f σ h => f = .nx ∧ ∃ (kvs : List (D × D)) (ls : List Pc) (m : Nat) (q6 q7 q8 : Option D), σ = [some d.e, some (.int (M : Nat)), some d.first.e, some (.ref 0), some (.ref 1), some (.int (m : Nat)), q6, q7, q8, none] ∧ h = [.dct kvs, .lst (ls.map Pc.e)])
    (fun n σ h ⟨kvs, ls, m, q6, q7, q8, e1, e2, g1, g2, g3, g4⟩ => by
      subst e1; subst e2
      by_cases b1 : m < ls.length
      case neg =>
        have b1' : ¬ ((m : Int) < (ls.length : Int)) := by omega
        exact .inl ⟨[.dct kvs, .lst (ls.map Pc.e)], by simp [smC, b1'], rfl, kvs, ls, m, q6, q7, q8, rfl, rfl⟩
      by_cases b2 : ls.length ≤ M
      case neg =>
        have b1' : (m : Int) < (ls.length : Int) := by omega
        have b2' : ¬ ((ls.length : Int) ≤ (M : Nat)) := by omega
        exact .inl ⟨[.dct kvs, .lst (ls.map Pc.e)], by simp [smC, b1', b2'], rfl, kvs, ls, m, q6, q7, q8, rfl, rfl⟩
      right
      have b1' : (m : Int) < (ls.length : Int) := by omega
      have b2' : (ls.length : Int) ≤ (M : Nat) := by omega
      have hx : ls[m]? = some ls[m] := List.getElem?_eq_getElem b1
      have hqo := g1 _ (List.getElem_mem b1)
      generalize ls[m] = q at hx hqo
      have hix : index (.ref 1) (.int (m : Nat)) [.dct kvs, .lst (ls.map Pc.e)] = some q.e := index_at (xs := ls.map Pc.e) rfl (by rw [List.getElem?_map, hx]; rfl)
      have j3 : ∀ H, index q.e (.int 0) H = some (.int q.day) := fun H => by simp [Pc.e]
      have c1 := c_rows (fuel := fuel) (k := k) (by omega) hd hqo [.dct kvs, .lst (ls.map Pc.e)]
      have r1 := rowsP_ok hqo
      have r2 := (rows_run (fuel := fuel) (k := 13) (by omega) hd hqo).2
      generalize rowsP d q = rs at c1 r1 r2
      have c2 := c_dawn (fuel := fuel) (k := k) (by omega) hd hqo [.dct kvs, .lst (ls.map Pc.e)]
      have cc := compL_map (σ := [some d.e, some (.int (M : Nat)), some d.first.e, some (.ref 0), some (.ref 1), some (.int (m : Nat)), some q.e, q7, none, none]) (tg := .t (.cons (.v 9) (.cons (.v 8) .nil))) (len := rs.length) (c := tstO (tabF L fuel k) (.so (.cmp .eq (.idx (.var 9) (.int 0)) (.str "do")))) (e := ev (tabF L fuel k) (.var 8)) (h := [.dct kvs, .lst (ls.map Pc.e)]) isDo sndD (rs.map rpE) 0 (fun x hx => by
        obtain ⟨⟨r, pc⟩, _, rfl⟩ := List.mem_map.mp hx
        refine ⟨[some d.e, some (.int (M : Nat)), some d.first.e, some (.ref 0), some (.ref 1), some (.int (m : Nat)), some q.e, q7, some pc.e, some r.e], by simp [put, puts, rpE], ?_, by simp [rpE, sndD]⟩
        cases r <;> simp [Rw.e, isDo, rpE])
      obtain ⟨bl, hbl, hbo⟩ := list_of Pc.e (fun q => q.ok d) (ds := ((rs.map rpE).filter isDo).map sndD) (fun y hy => by
        obtain ⟨x, hx, rfl⟩ := List.mem_map.mp hy
        obtain ⟨z, hz, rfl⟩ := List.mem_map.mp (List.mem_filter.mp hx).1
        exact ⟨z.2, rfl, r1 _ hz⟩)
      have hbn : bl.length ≤ 12000 := by
        have h1 := congrArg List.length hbl
        have h2 := List.length_filter_le isDo (rs.map rpE)
        simp only [List.length_map] at h1 h2
        omega
      rw [hbl] at cc
      have hl : rs.length ≤ lim := by simp [lim]; omega
      let bl2 := bl ++ (if q.day < d.days then [q.dawn] else [])
      have hb2 : ∀ y ∈ bl2, y.ok d := fun y hy => by
        rcases List.mem_append.mp hy with hy | hy
        · exact hbo y hy
        · split at hy
          · rename_i hbb
            cases List.mem_singleton.mp hy
            exact Pc.dawn_ok hqo hbb
          · cases hy
      have hn2 : bl2.length ≤ 13000 := by simp only [bl2, List.length_append]; split <;> simp <;> omega
      obtain ⟨kvs', ls', y8, e5, f1, f2, f3, f4⟩ := smF_ok (fuel := fuel) (C := tabF L fuel k) bl2 hb2 kvs ls g1 (by omega) (by omega) hn2 (some d.e) (some (.int (M : Nat))) (some d.first.e) (some (.int (m : Nat))) (some q.e) (some (.lst (bl2.map Pc.e))) q8 none
      refine ⟨[.dct kvs, .lst (ls.map Pc.e)], .nx, [some d.e, some (.int (M : Nat)), some d.first.e, some (.ref 0), some (.ref 1), some (.int (((m + 1) : Nat) : Int)), some q.e, some (.lst (bl2.map Pc.e)), y8, none], [.dct kvs', .lst (ls'.map Pc.e)], by simp [smC, b1', b2'], ?_, M + 1 - (m + 1), by omega, kvs', ls', m + 1, _, _, _, rfl, rfl, f1, by omega, rfl, by omega⟩
      have hcat : ∀ ys : List Pc, ys.length ≤ 10 → kCat2 (.lst (bl.map Pc.e)) (.lst (ys.map Pc.e), [.dct kvs, .lst (ls.map Pc.e)]) = some (bl.map Pc.e ++ ys.map Pc.e, [.dct kvs, .lst (ls.map Pc.e)]) := fun ys hy => kCat2_ap rfl rfl (by simp [lim]; omega)
      by_cases b3 : q.day < d.days
      · have hc1 := hcat [q.dawn] (by simp)
        have eb : bl.map Pc.e ++ [q.dawn.e] = bl2.map Pc.e := by simp [bl2, b3]
        simp only [List.map_cons, List.map_nil] at hc1
        rw [eb] at hc1
        simp [smB, hix, c1, kComp_ap, hl]
        rw [cc]
        simp [j3, j4, b3, c2, hc1, kFor_ap]
        simp at e5
        rw [e5]
        simp
      · have hc1 := hcat [] (by simp)
        have eb : bl.map Pc.e ++ [] = bl2.map Pc.e := by simp [bl2, b3]
        simp only [List.map_nil] at hc1
        rw [eb] at hc1
        simp [smB, hix, c1, kComp_ap, hl]
        rw [cc]
        simp [j3, j4, b3, hc1, kFor_ap]
        simp at e5
        rw [e5]
        simp)
    fuel (M + 1) [some d.e, some (.int (M : Nat)), some d.first.e, some (.ref 0), some (.ref 1), some (.int ((0 : Nat) : Int)), none, none, none, none] [.dct [(d.first.e, .bl true)], .lst ([d.first].map Pc.e)] (by omega)
    ⟨[(d.first.e, .bl true)], [d.first], 0, none, none, none, rfl, rfl, fun q hq => by cases List.mem_singleton.mp hq; exact Dl.first_ok hd, by simp, by omega, by omega⟩
  refine ⟨decide ((ls.length : Int) ≤ (M : Nat)), ?_⟩
  have kd : kDc2 d.first.e (.bl true, []) = some (.ref 0, [.dct [(d.first.e, .bl true)]]) := kDc2_ap d.first.key
  simp [c0, kd, ex_whl]
  simp at hw
  rw [hw]
  simp
  exact fin_v rfl
end PyD.K16

namespace PyD.K16
open PyD
variable {fuel : Nat}
theorem c_tk {k : Nat} (hk : 1 ≤ k) (m : Int) (hm : 0 < m) (hm2 : m < 1000000) (s : Bx) (R : AH) : callC (tabF L fuel k 30) [.ref 0, .int m] (.lst s.ds :: R) = some (.int (tk s m).1, .lst (tk s m).2.ds :: R) := by
  obtain ⟨k, rfl⟩ : ∃ m, k = m + 1 := ⟨k - 1, by omega⟩
  exact callO (r := 0) (h := .lst s.ds :: R) rfl rfl rfl (take_ok k s m hm hm2) rfl rfl
theorem c_bx {φ : Fun} {args : List D} {v : D} {s s' : Bx} (e : φ (.ref 0 :: args) [.lst s.ds] = some (v, [.lst s'.ds])) (hc : closeds args = true) (hv : closed v = true) (R : AH) :
    callC φ (.ref 0 :: args) (.lst s.ds :: R) = some (v, .lst s'.ds :: R) := callO (r := 0) (h := .lst s.ds :: R) rfl hc rfl e hv rfl
theorem c_bxn {φ : Fun} {args : List D} {v : D} {s s' : Bx} (e : φ (.ref 0 :: args) [.lst s.ds] = some (v, [.lst s'.ds])) (hc : closeds args = true) (hv : closed v = true) (h : AH) (n : Nat) (hn : n < h.length) :
    callC φ (.ref n :: args) (h.set n (.lst s.ds)) = some (v, h.set n (.lst s'.ds)) := by
  rw [callO (es := s.ds) (by simp [hn]) hc rfl e hv rfl, List.set_set]
/-- what is drawn lies below, as a whole number -/
theorem tk_nat (s : Bx) (m : Int) (hm : 0 < m) : ∃ (n : Nat) (s' : Bx), tk s m = ((n : Int), s') ∧ (n : Int) < m := by
  have h := tk_pos s hm
  exact ⟨(tk s m).1.toNat, (tk s m).2, by rw [Int.toNat_of_nonneg h.1], by rw [Int.toNat_of_nonneg h.1]; exact h.2⟩
structure Five (dl : D) (nc ns : Nat) : Prop where
  cl : closed dl = true
  c : ∃ C, (∀ H, index dl (.int 3) H = some (.tup C)) ∧ C.length = nc
  s : ∃ S, (∀ H, index dl (.int 4) H = some (.tup S)) ∧ S.length = ns ∧ ∀ H, cmpop .ne (.tup S) (.tup []) H = some (!(ns == 0))
  nc1 : 1 ≤ nc
  nc2 : nc ≤ 100
  ns2 : ns ≤ 100
def Sm.small (nc ns : Nat) (t : Sm) : Prop := t.okN nc ns ∧ t.dep ≤ 1 ∧ t.sz ≤ 3
theorem Sm.small.fine {nc ns : Nat} {t : Sm} (h : t.small nc ns) : t.fine nc ns := ⟨h.1, by have := h.2.1; omega, by have := h.2.2; omega⟩
theorem number_run {k : Nat} (hk : 2 ≤ k) {dl : D} {nc ns : Nat} (h5 : Five dl nc ns) (s : Bx) :
    ∃ (t : Sm) (s' : Bx), tabF L fuel k 43 [.ref 0, dl] [.lst s.ds] = some (t.e, [.lst s'.ds]) ∧ t.small nc ns := by
  obtain ⟨k, rfl⟩ : ∃ m, k = m + 1 := ⟨k - 1, by omega⟩
  obtain ⟨C, j3, hC⟩ := h5.c
  obtain ⟨S, j4, hS, hne⟩ := h5.s
  have n1 := h5.nc1; have n2 := h5.nc2; have n3 := h5.ns2
  have t7 := fun s R => c_tk (fuel := fuel) (k := k) (by omega) 7 (by omega) (by omega) s R
  have t3 := fun s R => c_tk (fuel := fuel) (k := k) (by omega) 3 (by omega) (by omega) s R
  have tc := fun s R => c_tk (fuel := fuel) (k := k) (by omega) (nc : Int) (by omega) (by omega) s R
  obtain ⟨w, s1, e1, hw⟩ := tk_nat s 7 (by omega)
  obtain ⟨c, s2, e2, hc⟩ := tk_nat s1 nc (by omega)
  obtain ⟨a, s3, e3, ha⟩ := tk_nat s2 3 (by omega)
  obtain ⟨c', s4, e4, hc'⟩ := tk_nat s2 nc (by omega)
  have hw' : w = 0 ∨ w = 1 ∨ w = 2 ∨ w = 3 ∨ w = 4 ∨ w = 5 ∨ w = 6 := by omega
  rw [tab_step (d := d__law_number) rfl]
  rcases hw' with rfl | rfl | rfl | rfl | rfl | rfl | rfl
  · exact ⟨.num a, s3, by simp [d__law_number, b__law_number, t7, e1, j3, hC, tc, e2, t3, e3, Sm.e]; exact fin_o rfl rfl, trivial, by simp [Sm.dep], by simp [Sm.sz]⟩
  · exact ⟨.num a, s3, by simp [d__law_number, b__law_number, t7, e1, j3, hC, tc, e2, t3, e3, Sm.e]; exact fin_o rfl rfl, trivial, by simp [Sm.dep], by simp [Sm.sz]⟩
  · exact ⟨.cnt c, s2, by simp [d__law_number, b__law_number, t7, e1, j3, hC, tc, e2, Sm.e]; exact fin_o rfl rfl, by simp [Sm.okN]; omega, by simp [Sm.dep], by simp [Sm.sz]⟩
  · exact ⟨.mix .plus (.cnt c) (.num 1), s2, by simp [d__law_number, b__law_number, t7, e1, j3, hC, tc, e2, Sm.e, Mx.s]; exact fin_o rfl rfl, by simp [Sm.okN]; omega, by simp [Sm.dep], by simp [Sm.sz]⟩
  · exact ⟨.mix .minus (.cnt c) (.num 1), s2, by simp [d__law_number, b__law_number, t7, e1, j3, hC, tc, e2, Sm.e, Mx.s]; exact fin_o rfl rfl, by simp [Sm.okN]; omega, by simp [Sm.dep], by simp [Sm.sz]⟩
  · by_cases h0 : ns = 0
    · have hb : (ns == 0) = true := by simp [h0]
      exact ⟨.mix .plus (.cnt c) (.cnt c'), s4, by simp [d__law_number, b__law_number, t7, e1, j3, hC, tc, e2, e4, j4, hne, hb, Sm.e, Mx.s]; exact fin_o rfl rfl, by simp [Sm.okN]; omega, by simp [Sm.dep], by simp [Sm.sz]⟩
    · have hb : (ns == 0) = false := by simp [h0]
      have ts := fun s R => c_tk (fuel := fuel) (k := k) (by omega) (ns : Int) (by omega) (by omega) s R
      obtain ⟨j, s5, e5, hj⟩ := tk_nat s2 ns (by omega)
      exact ⟨.seen j, s5, by simp [d__law_number, b__law_number, t7, e1, j3, hC, tc, e2, j4, hne, hb, hS, ts, e5, Sm.e]; exact fin_o rfl rfl, by simp [Sm.okN]; omega, by simp [Sm.dep], by simp [Sm.sz]⟩
  · exact ⟨.day, s2, by simp [d__law_number, b__law_number, t7, e1, j3, hC, tc, e2, Sm.e]; exact fin_o rfl rfl, trivial, by simp [Sm.dep], by simp [Sm.sz]⟩
theorem ls_ix (w : Nat) (hw : (w : Int) < 2) : ∃ l : Bool, ∀ H, index (.tup [.str "less", .str "same"]) (.int w) H = some (.str (cw l)) := by
  have h : w = 0 ∨ w = 1 := by omega
  rcases h with rfl | rfl
  · exact ⟨true, fun H => index_at (n := 0) rfl rfl⟩
  · exact ⟨false, fun H => index_at (n := 1) rfl rfl⟩
theorem ao_ix (w : Nat) (hw : (w : Int) < 2) : ∃ l : Bool, ∀ H, index (.tup [.str "and", .str "or"]) (.int w) H = some (.str (tw l)) := by
  have h : w = 0 ∨ w = 1 := by omega
  rcases h with rfl | rfl
  · exact ⟨true, fun H => index_at (n := 0) rfl rfl⟩
  · exact ⟨false, fun H => index_at (n := 1) rfl rfl⟩
def Wn.small (nc ns n : Nat) (t : Wn) : Prop := t.okN nc ns ∧ t.dep ≤ n ∧ t.sz + 1 ≤ 2 ^ (n + 1)
theorem leafN {nc ns : Nat} {t : Sm} (h : t.small nc ns) : t.fine nc ns := h.fine
theorem numF (nc ns : Nat) (i : Int) : (Sm.num i).fine nc ns := ⟨trivial, by simp [Sm.dep], by simp [Sm.sz]⟩
theorem cntF {nc ns j : Nat} (h : j < nc) : (Sm.cnt j).fine nc ns := ⟨h, by simp [Sm.dep], by simp [Sm.sz]⟩
theorem seenF {nc ns j : Nat} (h : j < ns) : (Sm.seen j).fine nc ns := ⟨h, by simp [Sm.dep], by simp [Sm.sz]⟩
theorem when_run {dl : D} {nc ns : Nat} (h5 : Five dl nc ns) : ∀ (n : Nat) {k : Nat} (hk : n + 3 ≤ k) (s : Bx),
    ∃ (t : Wn) (s' : Bx), tabF L fuel k 44 [.ref 0, dl, .int (n : Nat)] [.lst s.ds] = some (t.e, [.lst s'.ds]) ∧ t.small nc ns n := by
  intro n
  induction n with
  | zero =>
    intro k hk s
    obtain ⟨k, rfl⟩ : ∃ m, k = m + 1 := ⟨k - 1, by omega⟩
    obtain ⟨C, j3, hC⟩ := h5.c
    obtain ⟨S, j4, hS, hne⟩ := h5.s
    have n1 := h5.nc1; have n2 := h5.nc2; have n3 := h5.ns2
    have t6 := fun s R => c_tk (fuel := fuel) (k := k) (by omega) 6 (by omega) (by omega) s R
    have t3 := fun s R => c_tk (fuel := fuel) (k := k) (by omega) 3 (by omega) (by omega) s R
    have t2 := fun s R => c_tk (fuel := fuel) (k := k) (by omega) 2 (by omega) (by omega) s R
    have tc := fun s R => c_tk (fuel := fuel) (k := k) (by omega) (nc : Int) (by omega) (by omega) s R
    obtain ⟨w, s1, e1, hw⟩ := tk_nat s 6 (by omega)
    obtain ⟨u, s2, e2, hu⟩ := tk_nat s1 2 (by omega)
    obtain ⟨c, s3, e3, hc⟩ := tk_nat s2 nc (by omega)
    obtain ⟨a, s4, e4, ha⟩ := tk_nat s3 3 (by omega)
    obtain ⟨l, hl⟩ := ls_ix u hu
    obtain ⟨t1, s5, f1, g1⟩ := number_run (fuel := fuel) (k := k) (by omega) h5 s2
    obtain ⟨t2', s6, f2, g2⟩ := number_run (fuel := fuel) (k := k) (by omega) h5 s5
    have q1 := fun R => c_bx f1 (by simp [h5.cl]) (by simp) R
    have q2 := fun R => c_bx f2 (by simp [h5.cl]) (by simp) R
    rw [tab_step (d := d__law_when) rfl]
    have hw' : w < 3 ∨ w = 3 ∨ w = 4 ∨ w = 5 := by omega
    rcases hw' with h1 | rfl | rfl | rfl
    · have h1' : (w : Int) < 3 := by omega
      exact ⟨.cmp l (.cnt c) (.num a), s4, by simp [d__law_when, b__law_when, t6, e1, h1, h1', t2, e2, hl, j3, hC, tc, e3, t3, e4, Wn.e, Sm.e]; exact fin_o rfl rfl, ⟨cntF (by omega), numF _ _ _⟩, by simp [Wn.dep], by simp [Wn.sz]⟩
    · exact ⟨.cmp l t1 t2', s6, by simp [d__law_when, b__law_when, t6, e1, t2, e2, hl, q1, q2, Wn.e]; exact fin_o (by simp) rfl, ⟨g1.fine, g2.fine⟩, by simp [Wn.dep], by simp [Wn.sz]⟩
    · by_cases h0 : ns = 0
      · have hb : (ns == 0) = true := by simp [h0]
        exact ⟨.yes, s1, by simp [d__law_when, b__law_when, t6, e1, j4, hne, hb, Wn.e]; exact fin_o rfl rfl, trivial, by simp [Wn.dep], by simp [Wn.sz]⟩
      · have hb : (ns == 0) = false := by simp [h0]
        have ts := fun s R => c_tk (fuel := fuel) (k := k) (by omega) (ns : Int) (by omega) (by omega) s R
        obtain ⟨j, s7, e7, hj⟩ := tk_nat s1 ns (by omega)
        obtain ⟨b, s8, e8, hb2⟩ := tk_nat s7 2 (by omega)
        exact ⟨.cmp false (.seen j) (.num b), s8, by simp [d__law_when, b__law_when, t6, e1, j4, hne, hb, hS, ts, e7, t2, e8, Wn.e, cw, Sm.e]; exact fin_o rfl rfl, ⟨seenF (by omega), numF _ _ _⟩, by simp [Wn.dep], by simp [Wn.sz]⟩
    · exact ⟨.yes, s1, by simp [d__law_when, b__law_when, t6, e1, Wn.e]; exact fin_o rfl rfl, trivial, by simp [Wn.dep], by simp [Wn.sz]⟩
  | succ n ih =>
    intro k hk s
    obtain ⟨k, rfl⟩ : ∃ m, k = m + 1 := ⟨k - 1, by omega⟩
    obtain ⟨C, j3, hC⟩ := h5.c
    obtain ⟨S, j4, hS, hne⟩ := h5.s
    have n1 := h5.nc1; have n2 := h5.nc2; have n3 := h5.ns2
    have t6 := fun s R => c_tk (fuel := fuel) (k := k) (by omega) 8 (by omega) (by omega) s R
    have t3 := fun s R => c_tk (fuel := fuel) (k := k) (by omega) 3 (by omega) (by omega) s R
    have t2 := fun s R => c_tk (fuel := fuel) (k := k) (by omega) 2 (by omega) (by omega) s R
    have tc := fun s R => c_tk (fuel := fuel) (k := k) (by omega) (nc : Int) (by omega) (by omega) s R
    obtain ⟨w, s1, e1, hw⟩ := tk_nat s 8 (by omega)
    obtain ⟨u, s2, e2, hu⟩ := tk_nat s1 2 (by omega)
    obtain ⟨c, s3, e3, hc⟩ := tk_nat s2 nc (by omega)
    obtain ⟨a, s4, e4, ha⟩ := tk_nat s3 3 (by omega)
    obtain ⟨l, hl⟩ := ls_ix u hu
    obtain ⟨l2, hl2⟩ := ao_ix u hu
    obtain ⟨t1, s5, f1, g1⟩ := number_run (fuel := fuel) (k := k) (by omega) h5 s2
    obtain ⟨t2', s6, f2, g2⟩ := number_run (fuel := fuel) (k := k) (by omega) h5 s5
    obtain ⟨w1, z1, m1, p1⟩ := ih (k := k) (by omega) s1
    obtain ⟨w2, z2, m2, p2⟩ := ih (k := k) (by omega) s2
    obtain ⟨w3, z3, m3, p3⟩ := ih (k := k) (by omega) z2
    have q1 := fun R => c_bx f1 (by simp [h5.cl]) (by simp) R
    have q2 := fun R => c_bx f2 (by simp [h5.cl]) (by simp) R
    have r1 := fun R => c_bx m1 (by simp [h5.cl]) (by simp) R
    have r2 := fun R => c_bx m2 (by simp [h5.cl]) (by simp) R
    have r3 := fun R => c_bx m3 (by simp [h5.cl]) (by simp) R
    have n0 : (0 : Int) < (n : Int) + 1 := by omega
    have nn : (n : Int) + 1 - 1 = n := by omega
    have hp : 2 ≤ 2 ^ (n + 1 + 1) := by
      have := Nat.one_le_two_pow (n := n + 1)
      rw [Nat.pow_succ]; omega
    rw [tab_step (d := d__law_when) rfl]
    have hw' : w < 3 ∨ w = 3 ∨ w = 4 ∨ w = 5 ∨ w = 6 ∨ w = 7 := by omega
    rcases hw' with h1 | rfl | rfl | rfl | rfl | rfl
    · have h1' : (w : Int) < 3 := by omega
      exact ⟨.cmp l (.cnt c) (.num a), s4, by simp [d__law_when, b__law_when, n0, t6, e1, h1, h1', t2, e2, hl, j3, hC, tc, e3, t3, e4, Wn.e, Sm.e]; exact fin_o rfl rfl, ⟨cntF (by omega), numF _ _ _⟩, by simp [Wn.dep], by simp only [Wn.sz]; exact hp⟩
    · exact ⟨.cmp l t1 t2', s6, by simp [d__law_when, b__law_when, n0, t6, e1, t2, e2, hl, q1, q2, Wn.e]; exact fin_o (by simp) rfl, ⟨g1.fine, g2.fine⟩, by simp [Wn.dep], by simp only [Wn.sz]; exact hp⟩
    · by_cases h0 : ns = 0
      · have hb : (ns == 0) = true := by simp [h0]
        exact ⟨.yes, s1, by simp [d__law_when, b__law_when, n0, t6, e1, j4, hne, hb, Wn.e]; exact fin_o rfl rfl, trivial, by simp [Wn.dep], by simp only [Wn.sz]; exact hp⟩
      · have hb : (ns == 0) = false := by simp [h0]
        have ts := fun s R => c_tk (fuel := fuel) (k := k) (by omega) (ns : Int) (by omega) (by omega) s R
        obtain ⟨j, s7, e7, hj⟩ := tk_nat s1 ns (by omega)
        obtain ⟨b, s8, e8, hb2⟩ := tk_nat s7 2 (by omega)
        exact ⟨.cmp false (.seen j) (.num b), s8, by simp [d__law_when, b__law_when, n0, t6, e1, j4, hne, hb, hS, ts, e7, t2, e8, Wn.e, cw, Sm.e]; exact fin_o rfl rfl, ⟨seenF (by omega), numF _ _ _⟩, by simp [Wn.dep], by simp only [Wn.sz]; exact hp⟩
    · exact ⟨.yes, s1, by simp [d__law_when, b__law_when, n0, t6, e1, Wn.e]; exact fin_o rfl rfl, trivial, by simp [Wn.dep], by simp only [Wn.sz]; exact hp⟩
    · exact ⟨.neg w1, z1, by simp [d__law_when, b__law_when, n0, nn, t6, e1, r1, Wn.e]; exact fin_o (by simp) rfl, p1.1, by simp only [Wn.dep]; have := p1.2.1; omega, by simp only [Wn.sz]; have := p1.2.2; rw [Nat.pow_succ]; omega⟩
    · exact ⟨.two l2 w2 w3, z3, by simp [d__law_when, b__law_when, n0, nn, t6, e1, t2, e2, hl2, r2, r3, Wn.e]; exact fin_o (by simp) rfl, ⟨p2.1, p3.1⟩, by simp only [Wn.dep]; have := p2.2.1; have := p3.2.1; omega, by simp only [Wn.sz]; have := p2.2.2; have := p3.2.2; rw [Nat.pow_succ]; omega⟩
theorem Wn.small.fine1 {nc ns : Nat} {t : Wn} (h : t.small nc ns 1) : t.fine nc ns := ⟨h.1, by have := h.2.1; omega, by have := h.2.2; omega⟩
end PyD.K16

namespace PyD.K16
open PyD
variable {fuel : Nat}
theorem str_ok (i : Nat) (hi : i < 12) (h : AH) : bltf .str [.int (i : Int)] h = some (.str (ofStr i)) := by
  show (if (i : Int).natAbs.log2 < 1920 then some (D.str (ofStr i)) else none) = _
  have : ∀ i : Nat, i < 12 → (i : Int).natAbs.log2 < 1920 := by decide
  rw [if_pos (this i hi)]
theorem cat_ok (a : String) (ha : a.length ≤ 10) (i : Nat) (hi : i < 12) : binop .add (.str a) (.str (ofStr (i : Int))) = some (.str (a ++ ofStr i)) := by
  show (if a.length + (ofStr (i : Int)).length ≤ lim then some (D.str (a ++ ofStr i)) else none) = _
  have : ∀ i : Nat, i < 12 → (ofStr (i : Int)).length ≤ 20 := by decide
  have := this i hi
  rw [if_pos (by simp only [lim]; omega)]
theorem one_plus (u : Nat) (hu : u ≤ 100) : ∃ T : Int, binop .add (.int 1) (.int (u : Nat)) = some (.int T) ∧ rng 0 T = some ((List.range (u + 1)).map fun i => .int (i : Nat)) ∧ T = (((u + 1) : Nat) : Int) :=
  ⟨(((u + 1) : Nat) : Int), by rw [add_i]; congr 2; omega, rng_n (by omega), rfl⟩
theorem ne_nil {xs : List D} (hc : closeds xs = true) (hd : depDs xs ≤ 50) (h : AH) : cmpop .ne (.tup xs) (.tup []) h = some (!(xs.length == 0)) := by
  have e : eqO (.tup xs) (.tup []) h = some (eqD (.tup xs) (.tup [])) := by
    unfold eqO
    rw [if_pos]
    · rfl
    · show (closed (.tup xs) && closed (.tup []) && decide (depD (.tup xs) ≤ 60) && decide (depD (.tup []) ≤ 60)) = true
      simp [hc, depD, depDs]
      omega
  show (eqO _ _ _).map not = _
  rw [e]
  cases xs <;> rfl
theorem Ses_dep (l : List Se) : depDs (l.map Se.e) ≤ 50 := by
  have := depDs_map Se.e 1 (fun _ => by simp [Se.e, depD, depDs]) l
  omega
def fiveL (name : String) (rn : List String) (days : Int) (cts : List Ct) (sls : List Se) : List D := [.str name, .tup (rn.map .str), .int days, .tup (cts.map Ct.e), .tup (sls.map Se.e)]
theorem five_of (name : String) (rn : List String) (days : Int) (cts : List Ct) (sls : List Se) (more : List D) (hm : closeds more = true) (h1 : 1 ≤ cts.length) (h2 : cts.length ≤ 100) (h3 : sls.length ≤ 100) :
    Five (.tup (fiveL name rn days cts sls ++ more)) cts.length sls.length := by
  refine ⟨by simp [fiveL, hm], ⟨_, fun H => by simp [fiveL]; rfl, by simp⟩, ⟨_, fun H => by simp [fiveL]; rfl, by simp, fun H => ?_⟩, h1, h2, h3⟩
  rw [ne_nil (Ses_cl _) (Ses_dep _), List.length_map]
def oneS (s : Bx) (h : AH) : Prop := ∃ s', h = [.lst (Bx.ds s')]
/-! ### a deal: counters, seels, roles -/
def adB3 : Ex := (.blt .tuple (.cons (.comp (.tup (.cons (.bin .add (.str "c") (.blt .str (.cons (.var 12) .nil))) (.cons (.bin .add (.int 1) (.call 30 (.cons (.var 0) (.cons (.int 2) .nil)))) (.cons (.int 0) .nil)))) (.v 12) (.rng1 (.bin .add (.int 1) (.call 30 (.cons (.var 0) (.cons (.int 2) .nil))))) .no [12]) .nil))
def adB4 : Ex := (.ite (.cmp .eq (.call 30 (.cons (.var 0) (.cons (.int 2) .nil))) (.int 0)) (.tup (.cons (.tup (.cons (.str "s0") (.cons (.call 30 (.cons (.var 0) (.cons (.var 2) .nil))) (.cons (.int 1) .nil)))) .nil)) (.tup .nil))
def adB5 : Ex := (.tup (.cons (.var 1) (.cons (.blt .tuple (.cons (.comp (.bin .add (.str "r") (.blt .str (.cons (.var 8) .nil))) (.v 8) (.rng1 (.var 2)) .no [8]) .nil)) (.cons (.bin .add (.int 1) (.call 30 (.cons (.var 0) (.cons (.int 2) .nil)))) (.cons (.var 3) (.cons (.var 4) .nil))))))
def adB7 : Ex := (.ite (.cmp .ne (.var 4) (.tup .nil)) (.fv (.disp (.cons (.tup (.cons (.idx (.idx (.var 4) (.int 0)) (.int 1)) (.cons (.tup (.cons (.str "chooses") (.cons (.int 0) .nil))) .nil))) (.cons (.tup (.cons (.idx (.idx (.var 4) (.int 0)) (.int 1)) (.cons (.tup (.cons (.str "opens") (.cons (.int 0) .nil))) .nil))) .nil)))) (.fv (.disp .nil)))
def adK : Ss := (.cons (.set 7 (.fv (.cat (.var 7) (.fv (.rep (.fv (.disp (.cons (.tup (.cons (.var 8) (.cons (.tup (.cons (.str "plain") .nil)) .nil))) .nil))) (.bin .add (.int 1) (.ite (.cmp .eq (.var 2) (.int 2)) (.call 30 (.cons (.var 0) (.cons (.int 2) .nil))) (.int 0))))))))
 .nil)
def adD : Ss := (.cons (.set 10 (.ite (.bop false (.cons (.cmp .eq (.idx (.var 9) (.int 0)) (.str "plain")) (.cons (.cmp .eq (.call 30 (.cons (.var 0) (.cons (.int 3) .nil))) (.int 0)) .nil))) (.tup (.cons (.tup (.cons (.call 30 (.cons (.var 0) (.cons (.blt .len (.cons (.var 3) .nil)) .nil))) (.cons (.call 43 (.cons (.var 0) (.cons (.var 5) .nil))) .nil))) .nil)) (.tup .nil)))
 (.cons (.set 11 (.ite (.bop true (.cons (.cmp .ne (.idx (.var 9) (.int 0)) (.str "plain")) (.cons (.cmp .eq (.call 30 (.cons (.var 0) (.cons (.int 2) .nil))) (.int 0)) .nil))) (.tup (.cons (.str "yes") .nil)) (.call 44 (.cons (.var 0) (.cons (.var 5) (.cons (.int 1) .nil))))))
 (.cons (.expr (.app (.var 6) (.tup (.cons (.bin .add (.str "d") (.blt .str (.cons (.blt .len (.cons (.var 6) .nil)) .nil))) (.cons (.var 8) (.cons (.var 9) (.cons (.var 11) (.cons (.var 10) (.cons (.int 1) .nil)))))))))
 .nil)))
def adR : Ex := (.bin .add (.var 5) (.tup (.cons (.blt .tuple (.cons (.var 6) .nil)) (.cons (.tup .nil) (.cons (.tup (.cons (.str "count") (.cons (.int 0) .nil))) (.cons (.tup .nil) .nil))))))
theorem b_any_eq : b__law_any_deal = .cons (.set 3 adB3) (.cons (.set 4 adB4) (.cons (.par2 5 6 adB5 (.fm (.disp .nil))) (.cons (.set 7 adB7) (.cons (.for_ (.v 8) (.rng1 (.var 2)) adK) (.cons (.for_ (.t (.cons (.v 8) (.cons (.v 9) .nil))) (.seq (.var 7)) adD) (.cons (.ret adR) .nil)))))) := rfl
theorem ad3_ok {k : Nat} (hk : 1 ≤ k) (s : Bx) (x1 x2 : Option D) : ∃ (cts : List Ct) (s' : Bx), ev (tabF L fuel k) adB3 [some (.ref 0), x1, x2, none, none, none, none, none, none, none, none, none, none] [.lst s.ds] = some (.tup (cts.map Ct.e), [.lst s'.ds]) ∧ 1 ≤ cts.length ∧ cts.length ≤ 2 ∧ ∀ c ∈ cts, 0 ≤ c.top ∧ c.top ≤ 9 := by
  have t2 := fun s R => c_tk (fuel := fuel) (k := k) (by omega) 2 (by omega) (by omega) s R
  obtain ⟨u, s1, e1, hu⟩ := tk_nat s 2 (by omega)
  obtain ⟨T, hT, hr, hTT⟩ := one_plus u (by omega)
  obtain ⟨ds, h', ec, ⟨s', rfl⟩, hl, hQ⟩ := compL_ok (σ := [some (.ref 0), x1, x2, none, none, none, none, none, none, none, none, none, none]) (tg := .v 12) (len := u + 1) (c := tstO (tabF L fuel k) .no)
    (e := ev (tabF L fuel k) (.tup (.cons (.bin .add (.str "c") (.blt .str (.cons (.var 12) .nil))) (.cons (.bin .add (.int 1) (.call 30 (.cons (.var 0) (.cons (.int 2) .nil)))) (.cons (.int 0) .nil)))))
    (oneS s) (fun d => ∃ c : Ct, d = c.e ∧ (0 ≤ c.top ∧ c.top ≤ 9)) ((List.range (u + 1)).map fun i => D.int (i : Nat)) 0 [.lst s1.ds] (fun x hx h ⟨s2, e2⟩ => by
      subst e2
      obtain ⟨i, hi, rfl⟩ := List.mem_map.mp hx
      have hi := List.mem_range.mp hi
      have q1 := str_ok i (by omega) [.lst s2.ds]
      have q2 := cat_ok "c" (by decide) i (by omega)
      exact ⟨_, rfl, rfl, .tup [.str ("c" ++ ofStr i), .int (1 + (tk s2 2).1), .int 0], [.lst (tk s2 2).2.ds], by simp [q1, q2, t2], ⟨_, rfl⟩, ⟨"c" ++ ofStr i, 1 + (tk s2 2).1⟩, rfl, by have := tk_pos s2 (m := 2) (by omega); exact ⟨by show 0 ≤ 1 + (tk s2 2).1; omega, by show 1 + (tk s2 2).1 ≤ 9; omega⟩⟩) ⟨s1, rfl⟩
  obtain ⟨cts, rfl, htp⟩ := list_of Ct.e (fun c => 0 ≤ c.top ∧ c.top ≤ 9) hQ
  refine ⟨cts, s', ?_, ?_⟩
  · have hlim : u + 1 ≤ lim := by simp [lim]; omega
    simp [adB3, t2, e1, hT, hr, kComp_ap, hlim, -add_i]
    rw [ec]
    simp
  · simp at hl; exact ⟨by omega, by omega, htp⟩
theorem ad4_ok {k : Nat} (hk : 1 ≤ k) (s : Bx) (x1 : Option D) (r : Nat) (hr : 1 ≤ r) (hr2 : r < 100) (R : AH) (x3 : Option D) : ∃ (sls : List Se) (s' : Bx), ev (tabF L fuel k) adB4 [some (.ref 0), x1, some (.int r), x3, none, none, none, none, none, none, none, none, none] (.lst s.ds :: R) = some (.tup (sls.map Se.e), .lst s'.ds :: R) ∧ sls.length ≤ 1 ∧ ∀ x ∈ sls, x.top ≤ 100 := by
  have t2 := fun s R => c_tk (fuel := fuel) (k := k) (by omega) 2 (by omega) (by omega) s R
  have tr := fun s R => c_tk (fuel := fuel) (k := k) (by omega) (r : Int) (by omega) (by omega) s R
  obtain ⟨u, s1, e1, hu⟩ := tk_nat s 2 (by omega)
  obtain ⟨o, s2, e2, ho⟩ := tk_nat s1 r (by omega)
  have hw : u = 0 ∨ u = 1 := by omega
  rcases hw with rfl | rfl
  · exact ⟨[⟨"s0", o, 1⟩], s2, by simp [adB4, t2, e1, tr, e2, Se.e], by simp, fun x hx => by cases List.mem_singleton.mp hx; simp⟩
  · exact ⟨[], s1, by simp [adB4, t2, e1], by simp, fun x hx => by cases hx⟩
theorem ad5_ok {k : Nat} (hk : 1 ≤ k) (s : Bx) (name : String) (r : Nat) (hr2 : r < 10) (cts : List Ct) (sls : List Se) : ∃ (rn : List String) (days : Int) (s' : Bx), ev (tabF L fuel k) adB5 [some (.ref 0), some (.str name), some (.int r), some (.tup (cts.map Ct.e)), some (.tup (sls.map Se.e)), none, none, none, none, none, none, none, none] [.lst s.ds] =
    some (.tup (fiveL name rn days cts sls), [.lst s'.ds]) ∧ rn.length = r ∧ 0 ≤ days ∧ days ≤ 9 := by
  have t2 := fun s R => c_tk (fuel := fuel) (k := k) (by omega) 2 (by omega) (by omega) s R
  have hr := rng_n (n := r) (by omega)
  obtain ⟨ds, h', ec, rfl, hl, hQ⟩ := compL_ok (σ := [some (.ref 0), some (.str name), some (.int r), some (.tup (cts.map Ct.e)), some (.tup (sls.map Se.e)), none, none, none, none, none, none, none, none]) (tg := .v 8) (len := r) (c := tstO (tabF L fuel k) .no)
    (e := ev (tabF L fuel k) (.bin .add (.str "r") (.blt .str (.cons (.var 8) .nil))))
    (fun h => h = [.lst s.ds]) (fun d => ∃ c : String, d = .str c ∧ True) ((List.range r).map fun i => D.int (i : Nat)) 0 [.lst s.ds] (fun x hx h e2 => by
      subst e2
      obtain ⟨i, hi, rfl⟩ := List.mem_map.mp hx
      have hi := List.mem_range.mp hi
      have q1 := str_ok i (by omega) [.lst s.ds]
      have q2 := cat_ok "r" (by decide) i (by omega)
      exact ⟨_, rfl, rfl, .str ("r" ++ ofStr i), [.lst s.ds], by simp [q1, q2], rfl, "r" ++ ofStr i, rfl, trivial⟩) rfl
  obtain ⟨rn, rfl, _⟩ := list_of D.str (fun _ => True) hQ
  refine ⟨rn, 1 + (tk s 2).1, (tk s 2).2, ?_, by simpa using hl, by have := tk_pos s (m := 2) (by omega); omega⟩
  have hlim : r ≤ lim := by simp [lim]; omega
  simp [adB5, hr, kComp_ap, hlim]
  rw [ec]
  simp [t2, fiveL]
def kpE (x : Nat × Kd) : D := .tup [.int x.1, x.2.e]
theorem ad7_ok {C : Nat → Fun} (x0 x1 x2 x3 x5 x6 : Option D) (sls : List Se) (h : AH) : ∃ ks : List (Nat × Kd), ev C adB7 [x0, x1, x2, x3, some (.tup (sls.map Se.e)), x5, x6, none, none, none, none, none, none] h = some (.lst (ks.map kpE), h) ∧ (∀ x ∈ ks, x.2.ok sls.length) ∧ ks.length ≤ 2 := by
  have hn := ne_nil (Ses_cl sls) (Ses_dep sls) h
  cases sls with
  | nil =>
    simp only [List.map_nil] at hn
    exact ⟨[], by simp [adB7, hn], (fun x hx => by cases hx), by simp⟩
  | cons a l =>
    simp only [List.map_cons, Se.e] at hn
    refine ⟨[(a.owner, .ch 0), (a.owner, .op 0)], by simp [adB7, hn, Se.e, kpE, Kd.e], fun x hx => ?_, by simp⟩
    simp only [List.mem_cons, List.mem_nil_iff, or_false] at hx
    rcases hx with rfl | rfl <;> simp [Kd.ok]
end PyD.K16

namespace PyD.K16
open PyD
variable {fuel : Nat}
@[simp] theorem kpE_cl (x) : closed (kpE x) = true := by simp [kpE]
theorem adK_ok {k : Nat} (hk : 1 ≤ k) (r : Nat) (hr : r ≤ 9) (ns : Nat) (s : Bx) (ks : List (Nat × Kd)) (hks : ∀ x ∈ ks, x.2.ok ns) (hl : ks.length ≤ 2) (x1 x3 x4 x5 : Option D) :
    ∃ (ks' : List (Nat × Kd)) (s' : Bx) (y8 : Option D), forL (.v 8) none r (exs (tabF L fuel k) fuel adK) ((List.range r).map fun i => D.int (i : Nat)) 0 [some (.ref 0), x1, some (.int r), x3, x4, x5, some (.ref 1), some (.lst (ks.map kpE)), none, none, none, none, none] [.lst s.ds, .lst []] =
      some (.nx, [some (.ref 0), x1, some (.int r), x3, x4, x5, some (.ref 1), some (.lst (ks'.map kpE)), y8, none, none, none, none], [.lst s'.ds, .lst []]) ∧ (∀ x ∈ ks', x.2.ok ns) ∧ ks'.length ≤ 2 + (if r = 2 then 4 else r) := by
  obtain ⟨f, σ', h', hw, rfl, ks', s', y8, rfl, rfl, g1, g2⟩ := for_ix (tg := .v 8) (len := r) (b := exs (tabF L fuel k) fuel adK) ((List.range r).map fun i => D.int (i : Nat))
    (fun m σ h => ∃ (ks' : List (Nat × Kd)) (s' : Bx) (y8 : Option D), σ = [some (.ref 0), x1, some (.int r), x3, x4, x5, some (.ref 1), some (.lst (ks'.map kpE)), y8, none, none, none, none] ∧ h = [.lst s'.ds, .lst []] ∧ (∀ x ∈ ks', x.2.ok ns) ∧ ks'.length ≤ 2 + (if r = 2 then 2 * m else m))
    (fun f σ h => f = .nx ∧ ∃ (ks' : List (Nat × Kd)) (s' : Bx) (y8 : Option D), σ = [some (.ref 0), x1, some (.int r), x3, x4, x5, some (.ref 1), some (.lst (ks'.map kpE)), y8, none, none, none, none] ∧ h = [.lst s'.ds, .lst []] ∧ (∀ x ∈ ks', x.2.ok ns) ∧ ks'.length ≤ 2 + (if r = 2 then 4 else r))
    (fun σ h ⟨ks', s', y8, e1, e2, g1, g2⟩ => ⟨rfl, ks', s', y8, e1, e2, g1, by
      simp only [List.length_map, List.length_range] at g2
      split at g2
      · rename_i h2; rw [if_pos h2]; omega
      · rename_i h2; rw [if_neg h2]; omega⟩)
    (fun m x σ h hx ⟨ks', s', y8, e1, e2, g1, g2⟩ => by
      subst e1; subst e2
      have hm := (List.getElem?_eq_some_iff.mp hx).1
      simp at hm
      rw [List.getElem?_map, List.getElem?_range hm] at hx
      simp only [Option.map_some, Option.some.injEq] at hx
      subst hx
      have t2 := fun s R => c_tk (fuel := fuel) (k := k) (by omega) 2 (by omega) (by omega) s R
      obtain ⟨u, s1, e1, hu⟩ := tk_nat s' 2 (by omega)
      have fin : ∀ (u : Nat) (s2 : Bx) (T : Int), u ≤ 1 → T = (((u + 1) : Nat) : Int) → ∀ H, kRep2 (.lst [.tup [.int (m : Nat), .tup [.str "plain"]]]) (.int T, H) = some (List.replicate (u + 1) (.tup [.int (m : Nat), .tup [.str "plain"]]), H) ∧
          kCat2 (.lst (ks'.map kpE)) (.lst (List.replicate (u + 1) (.tup [.int (m : Nat), .tup [.str "plain"]])), H) = some ((ks' ++ List.replicate (u + 1) (m, Kd.plain)).map kpE, H) := fun u s2 T hu hT H => by
        refine ⟨by rw [hT]; exact kRep2_one (by simp [lim]; omega), ?_⟩
        rw [kCat2_ap rfl rfl (by simp [lim]; split at g2 <;> omega)]
        simp [kpE, Kd.e]
      have keep : ∀ u, ∀ x ∈ ks' ++ List.replicate (u + 1) (m, Kd.plain), x.2.ok ns := fun u x hx => by
        rcases List.mem_append.mp hx with hx | hx
        · exact g1 x hx
        · rw [List.eq_of_mem_replicate hx]; trivial
      by_cases h2 : r = 2
      · obtain ⟨T, hT, _, hTT⟩ := one_plus u (by omega)
        have f1 := fun H => (fin u s1 T (by omega) hTT H).1
        have f2 := fun H => (fin u s1 T (by omega) hTT H).2
        subst h2
        refine ⟨_, rfl, .nx, [some (.ref 0), x1, some (.int 2), x3, x4, x5, some (.ref 1), some (.lst ((ks' ++ List.replicate (u + 1) (m, Kd.plain)).map kpE)), some (.int m), none, none, none, none], [.lst s1.ds, .lst []], ?_, _, s1, _, rfl, rfl, keep u, ?_⟩
        · simp [adK, t2, e1, hT, f1, -add_i]
          rw [f2]
          simp
        · simp only [if_true] at g2 ⊢
          simp; omega
      · obtain ⟨T, hT, _, hTT⟩ := one_plus 0 (by omega)
        have f1 := fun H => (fin 0 s1 T (by omega) hTT H).1
        have f2 := fun H => (fin 0 s1 T (by omega) hTT H).2
        have hb : ((r : Int) == 2) = false := by rw [beq_eq_false_iff_ne]; omega
        have hT : binop .add (.int 1) (.int 0) = some (.int T) := hT
        refine ⟨_, rfl, .nx, [some (.ref 0), x1, some (.int r), x3, x4, x5, some (.ref 1), some (.lst ((ks' ++ List.replicate (0 + 1) (m, Kd.plain)).map kpE)), some (.int m), none, none, none, none], [.lst s'.ds, .lst []], ?_, _, s', _, rfl, rfl, keep 0, ?_⟩
        · simp only [Nat.zero_add] at f1 f2
          simp [adK, hb, hT, f1, -add_i]
          simp at f2
          rw [f2]
          simp
        · rw [if_neg h2] at g2 ⊢
          simp; omega)
    [some (.ref 0), x1, some (.int r), x3, x4, x5, some (.ref 1), some (.lst (ks.map kpE)), none, none, none, none, none] [.lst s.ds, .lst []] ⟨ks, s, none, rfl, rfl, hks, by split <;> omega⟩
  exact ⟨ks', s', y8, hw, g1, g2⟩
/-! ### deeds -/
def adE10 : Ex := (.ite (.bop false (.cons (.cmp .eq (.idx (.var 9) (.int 0)) (.str "plain")) (.cons (.cmp .eq (.call 30 (.cons (.var 0) (.cons (.int 3) .nil))) (.int 0)) .nil))) (.tup (.cons (.tup (.cons (.call 30 (.cons (.var 0) (.cons (.blt .len (.cons (.var 3) .nil)) .nil))) (.cons (.call 43 (.cons (.var 0) (.cons (.var 5) .nil))) .nil))) .nil)) (.tup .nil))
def adE11 : Ex := (.ite (.bop true (.cons (.cmp .ne (.idx (.var 9) (.int 0)) (.str "plain")) (.cons (.cmp .eq (.call 30 (.cons (.var 0) (.cons (.int 2) .nil))) (.int 0)) .nil))) (.tup (.cons (.str "yes") .nil)) (.call 44 (.cons (.var 0) (.cons (.var 5) (.cons (.int 1) .nil)))))
theorem adE10_ok {k : Nat} (hk : 2 ≤ k) {dl : D} {cts : List Ct} {ns : Nat} (h5 : Five dl cts.length ns) (kd : Kd) (s : Bx) (R : AH) (x1 x2 x4 x6 x7 x8 x10 x11 x12 : Option D) :
    ∃ (st : List (Nat × Sm)) (s' : Bx), ev (tabF L fuel k) adE10 [some (.ref 0), x1, x2, some (.tup (cts.map Ct.e)), x4, some dl, x6, x7, x8, some kd.e, x10, x11, x12] (.lst s.ds :: R) = some (.tup (st.map stE), .lst s'.ds :: R) ∧ ∀ x ∈ st, x.1 < cts.length ∧ x.2.fine cts.length ns := by
  have n1 := h5.nc1; have n2 := h5.nc2
  have t3 := fun s R => c_tk (fuel := fuel) (k := k) (by omega) 3 (by omega) (by omega) s R
  have tc := fun s R => c_tk (fuel := fuel) (k := k) (by omega) (cts.length : Int) (by omega) (by omega) s R
  have go : ∀ s : Bx, ∃ (c : Nat) (t : Sm) (s1 s2 : Bx), (∀ R, callC (tabF L fuel k 30) [.ref 0, .int (cts.length : Nat)] (.lst s.ds :: R) = some (.int (c : Nat), .lst s1.ds :: R)) ∧ (∀ R, callC (tabF L fuel k 43) [.ref 0, dl] (.lst s1.ds :: R) = some (t.e, .lst s2.ds :: R)) ∧ c < cts.length ∧ t.fine cts.length ns := fun s => by
    obtain ⟨c, s1, e1, hc⟩ := tk_nat s (cts.length : Int) (by omega)
    obtain ⟨t, s2, f1, g1⟩ := number_run (fuel := fuel) (k := k) (by omega) h5 s1
    exact ⟨c, t, s1, s2, fun R => by rw [tc, e1], fun R => c_bx f1 (by simp [h5.cl]) (by simp) R, by omega, g1.fine⟩
  have fin : ∀ (c : Nat) (t : Sm), c < cts.length → t.fine cts.length ns → ∀ x ∈ [(c, t)], x.1 < cts.length ∧ x.2.fine cts.length ns := fun c t h1 h2 x hx => by
    cases List.mem_singleton.mp hx; exact ⟨h1, h2⟩
  have other : ∀ a : String, (a == "plain") = false → ∀ l : List D, kd.e = .tup (.str a :: l) → ∃ (st : List (Nat × Sm)) (s' : Bx), ev (tabF L fuel k) adE10 [some (.ref 0), x1, x2, some (.tup (cts.map Ct.e)), x4, some dl, x6, x7, x8, some kd.e, x10, x11, x12] (.lst s.ds :: R) = some (.tup (st.map stE), .lst s'.ds :: R) ∧ ∀ x ∈ st, x.1 < cts.length ∧ x.2.fine cts.length ns := fun a ha l hl => by
    obtain ⟨w, s1, e1, hw⟩ := tk_nat s 3 (by omega)
    obtain ⟨c, t, s2, s3, c1, c2, h1, h2⟩ := go s1
    by_cases h0 : w = 0
    · subst h0
      exact ⟨[(c, t)], s3, by simp [adE10, hl, ha, t3, e1, c1, c2, stE], fin c t h1 h2⟩
    · have hb : ((w : Int) == 0) = false := by rw [beq_eq_false_iff_ne]; omega
      exact ⟨[], s1, by simp [adE10, hl, ha, t3, e1, hb], fun x hx => by cases hx⟩
  cases kd with
  | plain =>
    obtain ⟨c, t, s1, s2, c1, c2, h1, h2⟩ := go s
    exact ⟨[(c, t)], s2, by simp [adE10, Kd.e, c1, c2, stE], fin c t h1 h2⟩
  | ch j => exact other "chooses" (by decide) _ rfl
  | op j => exact other "opens" (by decide) _ rfl
theorem adE11_ok {k : Nat} (hk : 4 ≤ k) {dl : D} {nc ns : Nat} (h5 : Five dl nc ns) (kd : Kd) (s : Bx) (R : AH) (x1 x2 x3 x4 x6 x7 x8 x10 x11 x12 : Option D) :
    ∃ (w : Wn) (s' : Bx), ev (tabF L fuel k) adE11 [some (.ref 0), x1, x2, x3, x4, some dl, x6, x7, x8, some kd.e, x10, x11, x12] (.lst s.ds :: R) = some (w.e, .lst s'.ds :: R) ∧ w.fine nc ns := by
  have t2 := fun s R => c_tk (fuel := fuel) (k := k) (by omega) 2 (by omega) (by omega) s R
  have go : ∀ s : Bx, ∃ (w : Wn) (s1 : Bx), (∀ R, callC (tabF L fuel k 44) [.ref 0, dl, .int 1] (.lst s.ds :: R) = some (w.e, .lst s1.ds :: R)) ∧ w.fine nc ns := fun s => by
    obtain ⟨t, s2, f1, g1⟩ := when_run (fuel := fuel) h5 1 (k := k) (by omega) s
    exact ⟨t, s2, fun R => c_bx f1 (by simp [h5.cl]) (by simp) R, g1.fine1⟩
  have other : ∀ a : String, (a == "plain") = false → ∀ l : List D, kd.e = .tup (.str a :: l) → ∃ (w : Wn) (s' : Bx), ev (tabF L fuel k) adE11 [some (.ref 0), x1, x2, x3, x4, some dl, x6, x7, x8, some kd.e, x10, x11, x12] (.lst s.ds :: R) = some (w.e, .lst s'.ds :: R) ∧ w.fine nc ns := fun a ha l hl => by
    obtain ⟨u, s1, e1, hu⟩ := tk_nat s 2 (by omega)
    obtain ⟨w, s2, c1, h1⟩ := go s1
    by_cases h0 : u = 0
    · subst h0
      exact ⟨.yes, s1, by simp [adE11, hl, ha, t2, e1, Wn.e], trivial, by simp [Wn.dep], by simp [Wn.sz]⟩
    · have hb : ((u : Int) == 0) = false := by rw [beq_eq_false_iff_ne]; omega
      exact ⟨w, s2, by simp [adE11, hl, ha, t2, e1, hb, c1], h1⟩
  cases kd with
  | plain =>
    obtain ⟨w, s2, c1, h1⟩ := go s
    exact ⟨w, s2, by simp [adE11, Kd.e, c1], h1⟩
  | ch j => exact other "chooses" (by decide) _ rfl
  | op j => exact other "opens" (by decide) _ rfl
def adA : S := (.expr (.app (.var 6) (.tup (.cons (.bin .add (.str "d") (.blt .str (.cons (.blt .len (.cons (.var 6) .nil)) .nil))) (.cons (.var 8) (.cons (.var 9) (.cons (.var 11) (.cons (.var 10) (.cons (.int 1) .nil)))))))))
theorem adD_eq : adD = .cons (.set 10 adE10) (.cons (.set 11 adE11) (.cons adA .nil)) := rfl
theorem adD_ok {k : Nat} (hk : 4 ≤ k) {dl : D} {cts : List Ct} {ns : Nat} (h5 : Five dl cts.length ns) (ks : List (Nat × Kd)) (hks : ∀ x ∈ ks, x.2.ok ns) (hl : ks.length ≤ 11) (s : Bx) (x1 x2 x4 x7 x8 x12 : Option D) :
    ∃ (dds : List Dd) (s' : Bx) (y8 y9 y10 y11 : Option D), forL (.t (.cons (.v 8) (.cons (.v 9) .nil))) none (ks.map kpE).length (exs (tabF L fuel k) fuel adD) (ks.map kpE) 0 [some (.ref 0), x1, x2, some (.tup (cts.map Ct.e)), x4, some dl, some (.ref 1), x7, x8, none, none, none, x12] [.lst s.ds, .lst []] =
      some (.nx, [some (.ref 0), x1, x2, some (.tup (cts.map Ct.e)), x4, some dl, some (.ref 1), x7, y8, y9, y10, y11, x12], [.lst s'.ds, .lst (dds.map Dd.e)]) ∧ (∀ x ∈ dds, x.ok cts.length ns) ∧ dds.length ≤ 11 := by
  obtain ⟨f, σ', h', hw, rfl, dds, s', y8, y9, y10, y11, rfl, rfl, g1, g2⟩ := for_ix (tg := .t (.cons (.v 8) (.cons (.v 9) .nil))) (len := (ks.map kpE).length) (b := exs (tabF L fuel k) fuel adD) (ks.map kpE)
    (fun m σ h => ∃ (dds : List Dd) (s' : Bx) (y8 y9 y10 y11 : Option D), σ = [some (.ref 0), x1, x2, some (.tup (cts.map Ct.e)), x4, some dl, some (.ref 1), x7, y8, y9, y10, y11, x12] ∧ h = [.lst s'.ds, .lst (dds.map Dd.e)] ∧ (∀ x ∈ dds, x.ok cts.length ns) ∧ dds.length = m)
    (fun f σ h => f = .nx ∧ ∃ (dds : List Dd) (s' : Bx) (y8 y9 y10 y11 : Option D), σ = [some (.ref 0), x1, x2, some (.tup (cts.map Ct.e)), x4, some dl, some (.ref 1), x7, y8, y9, y10, y11, x12] ∧ h = [.lst s'.ds, .lst (dds.map Dd.e)] ∧ (∀ x ∈ dds, x.ok cts.length ns) ∧ dds.length ≤ 11)
    (fun σ h ⟨dds, s', y8, y9, y10, y11, e1, e2, g1, g2⟩ => ⟨rfl, dds, s', y8, y9, y10, y11, e1, e2, g1, by simp at g2; omega⟩)
    (fun m x σ h hx ⟨dds, s', y8, y9, y10, y11, e1, e2, g1, g2⟩ => by
      subst e1; subst e2
      have hm := (List.getElem?_eq_some_iff.mp hx).1
      simp at hm
      obtain ⟨kp, hkp, rfl⟩ := List.mem_map.mp (List.mem_of_getElem? hx)
      obtain ⟨ro, kd⟩ := kp
      obtain ⟨st, s2, e10, q10⟩ := adE10_ok (fuel := fuel) (k := k) (by omega) h5 kd s' [.lst (dds.map Dd.e)] x1 x2 x4 (some (.ref 1)) x7 (some (.int ro)) y10 y11 x12
      obtain ⟨w, s3, e11, q11⟩ := adE11_ok (fuel := fuel) (k := k) (by omega) h5 kd s2 [.lst (dds.map Dd.e)] x1 x2 (some (.tup (cts.map Ct.e))) x4 (some (.ref 1)) x7 (some (.int ro)) (some (.tup (st.map stE))) y11 x12
      have a1 := str_ok dds.length (by omega) [.lst s3.ds, .lst (dds.map Dd.e)]
      have a2 := cat_ok "d" (by decide) dds.length (by omega)
      let nd : Dd := ⟨"d" ++ ofStr (dds.length : Nat), ro, kd, w, st, 1⟩
      have a3 : kApp2 (.ref 1) (nd.e, [.lst s3.ds, .lst (dds.map Dd.e)]) = some (.non, [.lst s3.ds, .lst (dds.map Dd.e ++ [nd.e])]) := app_r1 (by simp [lim]; omega)
      refine ⟨[some (.ref 0), x1, x2, some (.tup (cts.map Ct.e)), x4, some dl, some (.ref 1), x7, some (.int ro), some kd.e, y10, y11, x12], by simp [put, puts, kpE], .nx, [some (.ref 0), x1, x2, some (.tup (cts.map Ct.e)), x4, some dl, some (.ref 1), x7, some (.int ro), some kd.e, some (.tup (st.map stE)), some w.e, x12], [.lst s3.ds, .lst ((dds ++ [nd]).map Dd.e)], ?_, dds ++ [nd], s3, _, _, _, _, rfl, rfl, fun x hx => ?_, by simp; omega⟩
      · rw [adD_eq]
        simp only [exs_cons, ex_set, e10, Option.bind_some, kSet_ap, List.set_cons_succ, List.set_cons_zero, kSeq_nx, e11]
        simp [adA, a1, a2, Dd.e, nd] at a3 ⊢
        simp [a1, a2, a3]
      · rcases List.mem_append.mp hx with hx | hx
        · exact g1 x hx
        · cases List.mem_singleton.mp hx
          exact ⟨q11, q10, hks _ hkp, rfl⟩)
    [some (.ref 0), x1, x2, some (.tup (cts.map Ct.e)), x4, some dl, some (.ref 1), x7, x8, none, none, none, x12] [.lst s.ds, .lst []] ⟨[], s, x8, none, none, none, rfl, rfl, (fun x hx => by cases hx), rfl⟩
  exact ⟨dds, s', y8, y9, y10, y11, hw, g1, g2⟩
end PyD.K16

namespace PyD.K16
open PyD
variable {fuel : Nat}
theorem any_run {k : Nat} (hk : 6 ≤ k) (name : String) (r : Nat) (hr : 1 ≤ r) (hr2 : r ≤ 9) (s : Bx) : ∃ (d : Dl) (s' : Bx), tabF L fuel k 45 [.ref 0, .str name, .int r] [.lst s.ds] = some (d.e, [.lst s'.ds]) ∧ d.ok ∧ d.roles.length = r ∧ d.cls = [] ∧ d.dds.length ≤ 11 ∧ ∀ c ∈ d.cts, 0 ≤ c.top ∧ c.top ≤ 9 := by
  obtain ⟨k, rfl⟩ : ∃ m, k = m + 1 := ⟨k - 1, by omega⟩
  obtain ⟨cts, s1, e3, c1, c2, c3⟩ := ad3_ok (fuel := fuel) (k := k) (by omega) s (some (.str name)) (some (.int r))
  obtain ⟨sls, s2, e4, l1, l2⟩ := ad4_ok (fuel := fuel) (k := k) (by omega) s1 (some (.str name)) r hr (by omega) [] (some (.tup (cts.map Ct.e)))
  obtain ⟨rn, days, s3, e5, hrn, hdy⟩ := ad5_ok (fuel := fuel) (k := k) (by omega) s2 name r (by omega) cts sls
  have h5 : Five (.tup (fiveL name rn days cts sls)) cts.length sls.length := by
    have := five_of name rn days cts sls [] rfl c1 (by omega) (by omega)
    simpa using this
  obtain ⟨ks, e7, hks, hkl⟩ := ad7_ok (C := tabF L fuel k) (some (.ref 0)) (some (.str name)) (some (.int r)) (some (.tup (cts.map Ct.e))) (some (.tup (fiveL name rn days cts sls))) (some (.ref 1)) sls [.lst s3.ds, .lst []]
  obtain ⟨ks', s4, y8, eK, hks', hkl'⟩ := adK_ok (fuel := fuel) (k := k) (by omega) r hr2 sls.length s3 ks hks hkl (some (.str name)) (some (.tup (cts.map Ct.e))) (some (.tup (sls.map Se.e))) (some (.tup (fiveL name rn days cts sls)))
  obtain ⟨dds, s5, z8, z9, z10, z11, eD, hdd, hdl⟩ := adD_ok (fuel := fuel) (k := k) (by omega) h5 ks' hks' (by split at hkl' <;> omega) s4 (some (.str name)) (some (.int r)) (some (.tup (sls.map Se.e))) (some (.lst (ks'.map kpE))) y8 none
  let d : Dl := ⟨name, rn, days, cts, sls, dds, [], .cnt 0, []⟩
  have hrng : rng 0 (r : Int) = some ((List.range r).map fun i => .int (i : Nat)) := rng_n (by omega)
  have ha : binop .add (.tup (fiveL name rn days cts sls)) (.tup [.tup (dds.map Dd.e), .tup [], .tup [.str "count", .int 0], .tup []]) = some d.e := by
    rw [add_t (by simp [fiveL, lim])]
    rfl
  refine ⟨d, s5, ?_, ⟨hdd, (fun x hx => by cases hx), by show dds.length ≤ 100; omega, by show rn.length ≤ 100; omega, by show cts.length ≤ 100; omega, by show sls.length ≤ 100; omega, by simp [d], l2, c1, by show 1 ≤ rn.length; omega, cntF (by show 0 < cts.length; omega), hdy.1, hdy.2, (fun x hx => by cases hx), by simp [d]⟩, hrn, rfl, hdl, c3⟩
  rw [tab_step (d := d__law_any_deal) rfl]
  show (exs (tabF L fuel k) fuel b__law_any_deal [some (.ref 0), some (.str name), some (.int r), none, none, none, none, none, none, none, none, none, none] [.lst s.ds]).bind (kRun false 1) = _
  rw [b_any_eq]
  have hR : ∀ y7 y8 y9 y10 y11 y12, ev (tabF L fuel k) adR [some (.ref 0), some (.str name), some (.int r), some (.tup (cts.map Ct.e)), some (.tup (sls.map Se.e)), some (.tup (fiveL name rn days cts sls)), some (.ref 1), y7, y8, y9, y10, y11, y12] [.lst s5.ds, .lst (dds.map Dd.e)] = some (d.e, [.lst s5.ds, .lst (dds.map Dd.e)]) := fun y7 y8 y9 y10 y11 y12 => by
    simp [adR, ha]
  simp only [exs_cons, ex_set, e3, Option.bind_some, kSet_ap, List.set_cons_succ, List.set_cons_zero, kSeq_nx, e4, ex_par2, e5, kP1_ap, ev_fm, evF_disp, evs_nil, kFm_ap, List.length_cons, List.length_nil, List.cons_append, List.nil_append, kP2_ap, e7, ex_for, evI_rng1, ev_var, List.getElem?_cons_succ, List.getElem?_cons_zero, kvar_ap, kI1_ap, hrng, kSq2_ap, kFor_ap, List.length_map, List.length_range]
  rw [eK]
  simp only [Option.bind_some, kSeq_nx, exs_cons, ex_for, evI_seq, ev_var, List.getElem?_cons_succ, List.getElem?_cons_zero, kvar_ap, kSq_ap, items_lst, rfOf_lst, kSq2_ap, kFor_ap, exs_nil]
  rw [eD]
  simp only [Option.bind_some, kSeq_nx, exs_cons, ex_ret, hR, kRet_ap, kSeq_rt, kRun_rt]
  exact fin_o (by simp) rfl
/-! ### promises -/
theorem Dl.five {d : Dl} (hd : d.ok) : Five d.e d.cts.length d.sls.length :=
  five_of d.name d.roles d.days d.cts d.sls [.tup (d.dds.map Dd.e), .tup (d.cls.map Cl.e), d.res.e, .tup (d.prs.map Pr.e)] (by simp) hd.nc1 hd.nc hd.ns
theorem pick_ex {k : Nat} (hk : 2 ≤ k) (s : Bx) (xs : List D) (h0 : 0 < xs.length) (h1 : xs.length < 1000000) (hc : closeds xs = true) :
    ∃ (x : D) (s' : Bx), x ∈ xs ∧ tabF L fuel k 31 [.ref 0, .lst xs] [.lst s.ds] = some (x, [.lst s'.ds]) := by
  obtain ⟨k, rfl⟩ : ∃ m, k = m + 2 := ⟨k - 2, by omega⟩
  have hp := tk_pos s (m := xs.length) (by omega)
  have hlt : (tk s xs.length).1.toNat < xs.length := by omega
  exact ⟨xs[(tk s xs.length).1.toNat], (tk s xs.length).2, List.getElem_mem hlt, pick_ok k s xs _ (List.getElem?_eq_getElem hlt) h0 h1 hc⟩
theorem promise_run {k : Nat} (hk : 6 ≤ k) {d : Dl} (hd : d.ok) (r : Nat) (s : Bx) : ∃ (x : Pr) (s' : Bx), tabF L fuel k 46 [.ref 0, d.e, .int r] [.lst s.ds] = some (x.e, [.lst s'.ds]) ∧ x.when.fine d.cts.length d.sls.length := by
  obtain ⟨k, rfl⟩ : ∃ m, k = m + 1 := ⟨k - 1, by omega⟩
  obtain ⟨x, s1, hx, e1⟩ := pick_ex (fuel := fuel) (k := k) (by omega) s [.tup [.str "never"], .tup [.str "never"], .tup [.str "by", .int 1], .tup [.str "end"], .tup [.str "end"]] (by simp) (by simp) rfl
  obtain ⟨w, s2, e2, hw⟩ := when_run (fuel := fuel) (Dl.five hd) 1 (k := k) (by omega) s1
  have c1 := fun R => c_bx e1 (by simp) (by simp only [List.mem_cons, List.mem_nil_iff, or_false] at hx; rcases hx with rfl | rfl | rfl | rfl | rfl <;> rfl) R
  have c2 := fun R => c_bx e2 (by simp) (by simp) R
  have c2 : ∀ R, callC (tabF L fuel k 44) [.ref 0, d.e, .int 1] (.lst s1.ds :: R) = some (w.e, .lst s2.ds :: R) := c2
  obtain ⟨kd, rfl⟩ : ∃ kd : PK, x = kd.e := by
    simp only [List.mem_cons, List.mem_nil_iff, or_false] at hx
    rcases hx with rfl | rfl | rfl | rfl | rfl
    · exact ⟨.never, rfl⟩
    · exact ⟨.never, rfl⟩
    · exact ⟨.on 1, rfl⟩
    · exact ⟨.fin, rfl⟩
    · exact ⟨.fin, rfl⟩
  refine ⟨⟨r, kd, w⟩, s2, ?_, hw.fine1⟩
  rw [tab_step (d := d__law_promise) rfl]
  simp [d__law_promise, b__law_promise, c1, c2]
  exact fin_o (by simp) rfl
/-! ### the swap -/
def swpW : Wn := .cmp false (.cnt 0) (.num 0)
def swpS : Wn := .cmp false (.cnt 1) (.num 1)
def swapD : Dl := ⟨"swap", ["buyer", "seller"], 2, [⟨"paid", 1⟩, ⟨"sent", 1⟩], [], [⟨"pay", 0, .plain, .yes, [(0, .num 1)], 1⟩, ⟨"send", 1, .plain, .cmp false (.cnt 0) (.num 1), [(1, .num 1)], 1⟩, ⟨"undo", 0, .plain, .cmp false (.cnt 1) (.num 0), [(0, .num 0)], 1⟩], [],
  .mix .plus (.cnt 0) (.cnt 1), [⟨0, .fin, .two false swpW swpS⟩, ⟨1, .never, .two true swpS swpW⟩]⟩
theorem swap_run {k : Nat} (hk : 1 ≤ k) : tabF L fuel k 47 [] [] = some (swapD.e, []) := by
  obtain ⟨k, rfl⟩ : ∃ m, k = m + 1 := ⟨k - 1, by omega⟩
  rw [tab_step (d := d__law_swap) rfl]
  have ha : ∀ a b c : D, binop .add (.tup [a, b]) (.tup [c]) = some (.tup [a, b, c]) := fun a b c => add_t (by simp [lim])
  simp [d__law_swap, b__law_swap, put, puts, ha]
  exact fin_0 rfl
theorem swap_ok : swapD.ok := by
  refine ⟨fun x hx => ?_, fun x hx => ?_, by decide, by decide, by decide, by decide, by decide, fun x hx => (by cases hx), by decide, by decide, ⟨⟨(show 0 < 2 by decide), (show 1 < 2 by decide)⟩, by decide, by decide⟩, by decide, by decide, (fun x hx => by cases hx), by decide⟩
  · simp only [swapD, List.mem_cons, List.mem_nil_iff, or_false] at hx
    rcases hx with rfl | rfl | rfl
    · exact ⟨⟨trivial, by decide, by decide⟩, fun s hs => by cases List.mem_singleton.mp hs; exact ⟨by decide, numF _ _ _⟩, trivial, rfl⟩
    · exact ⟨⟨⟨cntF (by decide), numF _ _ _⟩, by decide, by decide⟩, fun s hs => by cases List.mem_singleton.mp hs; exact ⟨by decide, numF _ _ _⟩, trivial, rfl⟩
    · exact ⟨⟨⟨cntF (by decide), numF _ _ _⟩, by decide, by decide⟩, fun s hs => by cases List.mem_singleton.mp hs; exact ⟨by decide, numF _ _ _⟩, trivial, rfl⟩
  · simp only [swapD, List.mem_cons, List.mem_nil_iff, or_false] at hx
    rcases hx with rfl | rfl
    · exact ⟨⟨⟨cntF (by decide), numF _ _ _⟩, ⟨cntF (by decide), numF _ _ _⟩⟩, by decide, by decide⟩
    · exact ⟨⟨⟨cntF (by decide), numF _ _ _⟩, ⟨cntF (by decide), numF _ _ _⟩⟩, by decide, by decide⟩
end PyD.K16

namespace PyD.K16
open PyD
variable {fuel : Nat}
def dlB : Ss := (.cons (.set 3 (.bin .add (.int 2) (.ite (.cmp .eq (.call 30 (.cons (.var 0) (.cons (.int 4) .nil))) (.int 0)) (.int 1) (.int 0))))
 (.cons (.set 4 (.call 45 (.cons (.var 0) (.cons (.str "main") (.cons (.var 3) .nil)))))
 (.cons (.ite (.call 42 (.cons (.var 4) (.cons (.var 1) .nil)))
 (.cons (.set 5 (.comp (.call 46 (.cons (.var 0) (.cons (.var 4) (.cons (.call 30 (.cons (.var 0) (.cons (.var 3) .nil))) .nil)))) (.v 6) (.rng1 (.bin .add (.int 1) (.call 30 (.cons (.var 0) (.cons (.int 2) .nil))))) .no [6]))
 (.cons (.ret (.bin .add (.slc (.var 4) .no (.so (.int 8))) (.tup (.cons (.blt .tuple (.cons (.var 5) .nil)) .nil))))
 .nil))
 .nil)
 .nil)))
theorem b_deal_eq : b__law_deal = .cons (.for_ (.v 2) (.rng1 (.int 5)) dlB) (.cons (.ret (.call 47 .nil)) .nil) := rfl
theorem c_small {k : Nat} (hk : 14 ≤ k) (hf : 700 ≤ fuel) (M : Nat) (hM : M ≤ 500) {d : Dl} (hd : d.ok) (h : AH) : ∃ b, callC (tabF L fuel k 42) [d.e, .int (M : Nat)] h = some (.bl b, h) := by
  obtain ⟨b, e⟩ := small_run (fuel := fuel) hk hf M hM hd
  exact ⟨b, callV (by simp) e rfl⟩
/-- promises are put in -/
def Dl.put (d : Dl) (l : List Pr) : Dl := { d with prs := l }
theorem Dl.put_ok {d : Dl} (hd : d.ok) (l : List Pr) (hl : ∀ x ∈ l, x.when.fine d.cts.length d.sls.length) (hn : l.length ≤ 100) : (d.put l).ok :=
  ⟨hd.dd, hl, hd.nd, hd.nr, hd.nc, hd.ns, hn, hd.tp, hd.nc1, hd.nr1, hd.rs, hd.dy, hd.dy2, hd.cl, hd.nl⟩
theorem Dl.put_e (d : Dl) (l : List Pr) (H : AH) : (kSlc3 d.e none (some 8, H)).bind (fun p => (binop .add p.1 (.tup [.tup (l.map Pr.e)]))) = some (d.put l).e := by
  have : cut [.str d.name, .tup (d.roles.map .str), .int d.days, .tup (d.cts.map Ct.e), .tup (d.sls.map Se.e), .tup (d.dds.map Dd.e), .tup (d.cls.map Cl.e), d.res.e, .tup (d.prs.map Pr.e)] none (some 8) =
    [.str d.name, .tup (d.roles.map .str), .int d.days, .tup (d.cts.map Ct.e), .tup (d.sls.map Se.e), .tup (d.dds.map Dd.e), .tup (d.cls.map Cl.e), d.res.e] := cut_to (n := 8) (by simp)
  simp only [Dl.e, kSlc3_ap, this, Option.bind_some]
  exact add_t (by simp [lim])
theorem Dl.cut8 (d : Dl) : ∃ c : List D, (∀ H, kSlc3 d.e none (some 8, H) = some (.tup c, H)) ∧ ∀ l : List Pr, binop .add (.tup c) (.tup [.tup (l.map Pr.e)]) = some (d.put l).e := by
  refine ⟨[.str d.name, .tup (d.roles.map .str), .int d.days, .tup (d.cts.map Ct.e), .tup (d.sls.map Se.e), .tup (d.dds.map Dd.e), .tup (d.cls.map Cl.e), d.res.e], fun H => ?_, fun l => add_t (by simp [lim])⟩
  have : cut [.str d.name, .tup (d.roles.map .str), .int d.days, .tup (d.cts.map Ct.e), .tup (d.sls.map Se.e), .tup (d.dds.map Dd.e), .tup (d.cls.map Cl.e), d.res.e, .tup (d.prs.map Pr.e)] none (some 8) =
    [.str d.name, .tup (d.roles.map .str), .int d.days, .tup (d.cts.map Ct.e), .tup (d.sls.map Se.e), .tup (d.dds.map Dd.e), .tup (d.cls.map Cl.e), d.res.e] := cut_to (n := 8) (by simp)
  simp only [Dl.e, kSlc3_ap, this]
theorem deal_run {k : Nat} (hk : 16 ≤ k) (hf : 700 ≤ fuel) (M : Nat) (hM : M ≤ 500) (s : Bx) : ∃ (d : Dl) (s' : Bx), tabF L fuel k 48 [.ref 0, .int (M : Nat)] [.lst s.ds] = some (d.e, [.lst s'.ds]) ∧ d.ok ∧ d.prs.length ≤ 10 ∧ d.cls = [] ∧ d.dds.length ≤ 11 ∧ d.roles.length ≤ 9 ∧ (∀ c ∈ d.cts, 0 ≤ c.top ∧ c.top ≤ 9) := by
  obtain ⟨k, rfl⟩ : ∃ m, k = m + 1 := ⟨k - 1, by omega⟩
  have hrng : rng 0 5 = some ((List.range 5).map fun i => .int (i : Nat)) := rng_n (n := 5) (by omega)
  obtain ⟨f, σ', h', hw, hP⟩ := for_all (tg := .v 2) (len := 5) (b := exs (tabF L fuel k) fuel dlB) ((List.range 5).map fun i => D.int (i : Nat))
    (fun σ h => ∃ (s' : Bx) (y2 y3 y4 y5 : Option D), σ = [some (.ref 0), some (.int (M : Nat)), y2, y3, y4, y5, none] ∧ h = [.lst s'.ds])
    (fun f σ h => (f = .nx ∧ ∃ (s' : Bx) (y2 y3 y4 y5 : Option D), σ = [some (.ref 0), some (.int (M : Nat)), y2, y3, y4, y5, none] ∧ h = [.lst s'.ds]) ∨ ∃ (d : Dl) (s' : Bx), f = .rt d.e ∧ h = [.lst s'.ds] ∧ d.ok ∧ d.prs.length ≤ 10 ∧ d.cls = [] ∧ d.dds.length ≤ 11 ∧ d.roles.length ≤ 9 ∧ (∀ c ∈ d.cts, 0 ≤ c.top ∧ c.top ≤ 9))
    (fun σ h z => .inl ⟨rfl, z⟩)
    (fun x hx σ h ⟨s', y2, y3, y4, y5, e1, e2⟩ => by
      subst e1; subst e2
      refine ⟨[some (.ref 0), some (.int (M : Nat)), some x, y3, y4, y5, none], by simp [PyD.put], ?_⟩
      have t4 := fun s R => c_tk (fuel := fuel) (k := k) (by omega) 4 (by omega) (by omega) s R
      have t2 := fun s R => c_tk (fuel := fuel) (k := k) (by omega) 2 (by omega) (by omega) s R
      obtain ⟨w, s1, e1, hw⟩ := tk_nat s' 4 (by omega)
      obtain ⟨r, hr1, hr2, hr3⟩ : ∃ r : Nat, 1 ≤ r ∧ r ≤ 9 ∧ ∀ σ', ev (tabF L fuel k) (.bin .add (.int 2) (.ite (.cmp .eq (.call 30 (.cons (.var 0) (.cons (.int 4) .nil))) (.int 0)) (.int 1) (.int 0))) (some (.ref 0) :: σ') [.lst s'.ds] = some (.int (r : Nat), [.lst s1.ds]) := by
        by_cases h0 : w = 0
        · subst h0
          exact ⟨3, by omega, by omega, fun σ' => by simp [t4, e1]⟩
        · have hb : ((w : Int) == 0) = false := by rw [beq_eq_false_iff_ne]; omega
          exact ⟨2, by omega, by omega, fun σ' => by simp [t4, e1, hb]⟩
      obtain ⟨d, s2, e3, hd, hdr, hdc, hdn, hdt⟩ := any_run (fuel := fuel) (k := k) (by omega) "main" r hr1 hr2 s1
      have c3 := c_bx e3 (by simp) (by simp) []
      obtain ⟨b, c4⟩ := c_small (fuel := fuel) (k := k) (by omega) hf M hM hd [.lst s2.ds]
      cases b with
      | false =>
        exact ⟨.nx, [some (.ref 0), some (.int (M : Nat)), some x, some (.int r), some d.e, y5, none], [.lst s2.ds], by
          rw [dlB]; simp only [exs_cons, ex_set, hr3, Option.bind_some, kSet_ap, List.set_cons_succ, List.set_cons_zero, kSeq_nx]
          simp [c3, c4], s2, some x, some (.int r), some d.e, y5, rfl, rfl⟩
      | true =>
        have tr := fun s R => c_tk (fuel := fuel) (k := k) (by omega) (r : Int) (by omega) (by omega) s R
        obtain ⟨u, s3, e5, hu⟩ := tk_nat s2 2 (by omega)
        obtain ⟨T, hT, hrT, _⟩ := one_plus u (by omega)
        obtain ⟨ds, h', ec, ⟨s4, rfl⟩, hl, hQ⟩ := compL_ok (σ := [some (.ref 0), some (.int (M : Nat)), some x, some (.int r), some d.e, y5, none]) (tg := .v 6) (len := u + 1) (c := tstO (tabF L fuel k) .no)
          (e := ev (tabF L fuel k) (.call 46 (.cons (.var 0) (.cons (.var 4) (.cons (.call 30 (.cons (.var 0) (.cons (.var 3) .nil))) .nil)))))
          (oneS s) (fun y => ∃ p : Pr, y = p.e ∧ p.when.fine d.cts.length d.sls.length) ((List.range (u + 1)).map fun i => D.int (i : Nat)) 0 [.lst s3.ds] (fun y hy h ⟨s5, e6⟩ => by
            subst e6
            obtain ⟨ro, s6, e7, _⟩ := tk_nat s5 r (by omega)
            obtain ⟨p, s8, e8, hp⟩ := promise_run (fuel := fuel) (k := k) (by omega) hd ro s6
            have c8 := c_bx e8 (by simp) (by simp) []
            exact ⟨_, rfl, rfl, p.e, [.lst s8.ds], by simp [tr, e7, c8], ⟨_, rfl⟩, p, rfl, hp⟩) ⟨s3, rfl⟩
        obtain ⟨prs, rfl, hprs⟩ := list_of Pr.e _ hQ
        obtain ⟨cc, k1, k2⟩ := d.cut8
        have hlim : u + 1 ≤ lim := by simp [lim]; omega
        have hln : prs.length = u + 1 := by simpa using hl
        refine ⟨.rt (d.put prs).e, [some (.ref 0), some (.int (M : Nat)), some x, some (.int r), some d.e, some (.lst (prs.map Pr.e)), none], [.lst s4.ds], ?_, .inr ⟨d.put prs, s4, rfl, rfl, d.put_ok hd prs hprs (by omega), by show prs.length ≤ 10; omega, hdc, hdn, by show d.roles.length ≤ 9; omega, hdt⟩⟩
        rw [dlB]; simp only [exs_cons, ex_set, hr3, Option.bind_some, kSet_ap, List.set_cons_succ, List.set_cons_zero, kSeq_nx]
        simp [c3, c4, t2, e5, hT, hrT, kComp_ap, hlim, -add_i]
        rw [ec]
        simp [k1, k2])
    [some (.ref 0), some (.int (M : Nat)), none, none, none, none, none] [.lst s.ds] ⟨s, none, none, none, none, rfl, rfl⟩
  have cs := fun h => callV (h := h) rfl (swap_run (fuel := fuel) (k := k) (by omega)) (by simp)
  rw [tab_step (d := d__law_deal) rfl]
  show ∃ (d : Dl) (s' : Bx), (exs (tabF L fuel k) fuel b__law_deal [some (.ref 0), some (.int (M : Nat)), none, none, none, none, none] [.lst s.ds]).bind (kRun false 1) = _ ∧ _
  rw [b_deal_eq]
  rcases hP with ⟨rfl, s', y2, y3, y4, y5, rfl, rfl⟩ | ⟨d, s', rfl, rfl, hd, hp⟩
  · refine ⟨swapD, s', ?_, swap_ok, by decide, rfl, by decide, by decide, by decide⟩
    simp only [exs_cons, ex_for, evI_rng1, ev_int, Option.bind_some, kI1_ap, hrng, kSq2_ap, kFor_ap, List.length_map, List.length_range]
    rw [hw]
    simp [cs]
    exact fin_o (by simp) rfl
  · refine ⟨d, s', ?_, hd, hp⟩
    simp only [exs_cons, ex_for, evI_rng1, ev_int, Option.bind_some, kI1_ap, hrng, kSq2_ap, kFor_ap, List.length_map, List.length_range]
    rw [hw]
    simp
    exact fin_o (by simp) rfl
end PyD.K16

namespace PyD.K16
open PyD
variable {fuel : Nat}
/-! ### passes, dawns -/
theorem allBool_bls : ∀ l : List Bool, allBool (l.map D.bl) = some l
  | [] => rfl
  | b :: l => by simp [allBool, allBool_bls l]
def passO (d : Dl) (p : Pc) (m : Nat) : Option Pc := if d.days ≤ p.day ∨ p.ps.getD m true = true then none else some (passP p m)
def dawnO (d : Dl) (p : Pc) : Option Pc := if d.days ≤ p.day ∨ p.ps.all id = false then none else some p.dawn
theorem pass_run {k : Nat} (hk : 2 ≤ k) {d : Dl} (hd : d.ok) {p : Pc} (hp : p.ok d) (m : Nat) (hm : m < d.roles.length) : tabF L fuel k 19 [d.e, p.e, .int m] [] = some (pE (passO d p m), []) := by
  obtain ⟨k, rfl⟩ : ∃ m, k = m + 1 := ⟨k - 1, by omega⟩
  have hnr := hd.nr
  have hm2 : m < p.ps.length := by rw [hp.p]; exact hm
  have c2 := c_over (fuel := fuel) (k := k) (by omega) hp []
  have hg : p.ps.getD m true = p.ps[m] := by simp [List.getD_eq_getElem?_getD, List.getElem?_eq_getElem hm2]
  have j8 : ∀ H, index p.e (.int 4) H = some (.tup (p.ps.map .bl)) := fun H => by simp [Pc.e]
  have j9 : ∀ H, index (.tup (p.ps.map .bl)) (.int (m : Nat)) H = some (.bl (p.ps.getD m true)) := fun H => index_at rfl (by rw [hg]; simp [hm2])
  obtain ⟨k1, k2, k3, k4⟩ := mid_ok (xs := p.ps.map D.bl) (n := m) (by simpa using hm2) (by simp [hp.p]; omega) (.bl true)
  have k5 : ∀ a, binop .add (.tup (cut [.int p.day, .tup (p.cs.map .int), .tup (p.ss.map sE), .tup (p.dn.map .int), .tup (p.ps.map .bl)] none (some 4))) (.tup [a]) = some (.tup [.int p.day, .tup (p.cs.map .int), .tup (p.ss.map sE), .tup (p.dn.map .int), a]) := fun a => by
    have : cut [.int p.day, .tup (p.cs.map .int), .tup (p.ss.map sE), .tup (p.dn.map .int), .tup (p.ps.map .bl)] none (some 4) = [.int p.day, .tup (p.cs.map .int), .tup (p.ss.map sE), .tup (p.dn.map .int)] := cut_to (n := 4) (by simp)
    rw [this]; exact add_t (by simp [lim])
  have hsl : ∀ H, kSlc3 p.e none (some 4, H) = some (.tup (cut [.int p.day, .tup (p.cs.map .int), .tup (p.ss.map sE), .tup (p.dn.map .int), .tup (p.ps.map .bl)] none (some 4)), H) := fun H => rfl
  have hqe : (D.tup [.int p.day, .tup (p.cs.map .int), .tup (p.ss.map sE), .tup (p.dn.map .int), .tup ((p.ps.map D.bl).set m (.bl true))]) = (passP p m).e := by simp [Pc.e, passP, List.map_set]
  rw [tab_step (d := d_pass_behind) rfl]
  unfold passO
  by_cases b1 : d.days ≤ p.day
  · rw [if_pos (.inl b1)]
    simp [d_pass_behind, b_pass_behind, c2, b1, pE]
    exact fin_0 rfl
  cases hb : p.ps.getD m true with
  | true =>
    rw [hb] at j9
    rw [if_pos (.inr rfl)]
    simp [d_pass_behind, b_pass_behind, c2, b1, j8, j9, pE]
    exact fin_0 rfl
  | false =>
    rw [hb] at j9
    rw [if_neg (by simp [b1])]
    simp only [d_pass_behind, b_pass_behind, List.length_cons, List.length_nil, List.map_cons, List.map_nil, List.cons_append, List.nil_append, List.replicate, exs_cons, exs_nil, ex_ite, tst_eq, ev_bop, evB_cons, evB_one, ev_call, evs_cons, evs_nil, ev_var, List.getElem?_cons_zero, List.getElem?_cons_succ, kvar_ap, Option.bind_some, kEs_ap, kEs2_ap, kCall_ap, c2, b1, decide_false, kB_ap, truth_bl, kB2_ff, ev_idx, ev_int, kIdx_ap, j8, kIdx2_ap, j9, kOut_eq, kTst_ap, kTst2_ap, kIf_f, kSeq_nx, ex_ret, ev_bin, ev_slc, kSlc_ap, kSlc2_ap, evO_no, evO_so, kO_ap, hsl, kSlc3_ap, k1, k2, k3, k4, k5, kBin_ap, kBin2_ap, ev_tup, kTup_ap, ev_bl, add_i, hqe, kRet_ap, kSeq_rt, kRun_rt, pE]
    exact fin_0 (by simp)
theorem dawnb_run {k : Nat} (hk : 2 ≤ k) {d : Dl} (hd : d.ok) {p : Pc} (hp : p.ok d) : tabF L fuel k 20 [d.e, p.e] [] = some (pE (dawnO d p), []) := by
  obtain ⟨k, rfl⟩ : ∃ m, k = m + 1 := ⟨k - 1, by omega⟩
  have hd1 := hd.nd; have hd0 := hd.nl; have hd2 := hd.nr
  have c2 := c_over (fuel := fuel) (k := k) (by omega) hp []
  have m2 := mul_t (x := .int 0) (n := p.dn.length) (by rw [hp.n]; omega)
  have m3 := mul_t (x := .bl false) (n := p.ps.length) (by rw [hp.p]; omega)
  have j0 : ∀ H, index p.e (.int 0) H = some (.int p.day) := fun H => by simp [Pc.e]
  have j1 : ∀ H, index p.e (.int 1) H = some (.tup (p.cs.map .int)) := fun H => by simp [Pc.e]
  have j2 : ∀ H, index p.e (.int 2) H = some (.tup (p.ss.map sE)) := fun H => by simp [Pc.e]
  have j3 : ∀ H, index p.e (.int 3) H = some (.tup (p.dn.map .int)) := fun H => by simp [Pc.e]
  have j8 : ∀ H, index p.e (.int 4) H = some (.tup (p.ps.map .bl)) := fun H => by simp [Pc.e]
  have ha : bltf .all [.tup (p.ps.map D.bl)] [] = some (.bl (p.ps.all id)) := by
    simp [bltf, allBool_bls]
  rw [tab_step (d := d_dawn_behind) rfl]
  unfold dawnO
  by_cases b1 : d.days ≤ p.day
  · rw [if_pos (.inl b1)]
    simp [d_dawn_behind, b_dawn_behind, c2, b1, pE]
    exact fin_0 rfl
  cases hb : p.ps.all id with
  | false =>
    rw [hb] at ha
    rw [if_pos (.inr rfl)]
    simp [d_dawn_behind, b_dawn_behind, c2, b1, j8, ha, pE]
    exact fin_0 rfl
  | true =>
    rw [hb] at ha
    rw [if_neg (by simp [b1])]
    simp [d_dawn_behind, b_dawn_behind, c2, b1, j0, j1, j2, j3, j8, ha, m2, m3, pE]
    rw [fin_0]
    · simp [Pc.dawn, Pc.e]
    · simp
      exact ⟨rep_cl _ _ rfl, rep_cl _ _ rfl⟩
def isT : D → Bool
  | .tup _ => true
  | _ => false
theorem istup_run {k : Nat} (hk : 1 ≤ k) (v : D) (hc : closed v = true) : tabF L fuel k 2 [v, .non] [] = some (.bl (isT v), []) := by
  obtain ⟨k, rfl⟩ : ∃ m, k = m + 1 := ⟨k - 1, by omega⟩
  rw [tab_step (d := d_is_tuple) rfl]
  cases v with
  | ref n => simp [closed] at hc
  | _ => simp [d_is_tuple, b_is_tuple, isTy, isT]; exact fin_0 rfl
theorem c_istup {k : Nat} (hk : 1 ≤ k) (v : D) (hc : closed v = true) (h : AH) : callC (tabF L fuel k 2) [v, .non] h = some (.bl (isT v), h) := callV (by simp [hc]) (istup_run hk v hc) rfl
theorem c_pass {k : Nat} (hk : 2 ≤ k) {d : Dl} (hd : d.ok) {p : Pc} (hp : p.ok d) (m : Nat) (hm : m < d.roles.length) (h : AH) : callC (tabF L fuel k 19) [d.e, p.e, .int m] h = some (pE (passO d p m), h) := callV (by simp) (pass_run hk hd hp m hm) (by simp)
theorem c_dawnb {k : Nat} (hk : 2 ≤ k) {d : Dl} (hd : d.ok) {p : Pc} (hp : p.ok d) (h : AH) : callC (tabF L fuel k 20) [d.e, p.e] h = some (pE (dawnO d p), h) := callV (by simp) (dawnb_run hk hd hp) (by simp)
end PyD.K16

namespace PyD.K16
open PyD
variable {fuel : Nat}
/-! ### the same -/
mutual
def sameD : D → D → Bool
  | t, .tup ds => match tupOf t with
    | some ts => samesD ts ds
    | none => false
  | t, .non => match t with
    | .non => true
    | _ => false
  | t, .bl b => match t with
    | .bl c => c == b
    | _ => false
  | t, .int i => match t with
    | .int j => j == i
    | _ => false
  | t, .str s => match t with
    | .str r => r == s
    | _ => false
  | _, _ => false
def samesD : List D → List D → Bool
  | t :: ts, d :: ds => sameD t d && samesD ts ds
  | [], [] => true
  | _, _ => false
end
mutual
theorem same_refl : ∀ d : D, keyOk d = true → sameD d d = true
  | .non, _ => rfl
  | .bl b, _ => by simp [sameD]
  | .int i, _ => by simp [sameD]
  | .str s, _ => by simp [sameD]
  | .tup ds, h => by simp only [sameD, tupOf]; exact sames_refl ds h
  | .lst _, h => by simp [keyOk] at h
  | .rol _, h => by simp [keyOk] at h
  | .ref _, h => by simp [keyOk] at h
theorem sames_refl : ∀ ds : List D, keyOks ds = true → samesD ds ds = true
  | [], _ => rfl
  | d :: ds, h => by
    simp only [keyOks, Bool.and_eq_true] at h
    simp only [samesD, same_refl d h.1, sames_refl ds h.2, Bool.and_self]
end
theorem sames_len : ∀ ts ds : List D, ts.length ≠ ds.length → samesD ts ds = false
  | [], [], h => absurd rfl h
  | [], _ :: _, _ => rfl
  | _ :: _, [], _ => rfl
  | t :: ts, d :: ds, h => by
    simp only [samesD, sames_len ts ds (fun z => h (by simp [z])), Bool.and_false]
def saB : Ss := (.cons (.ite (.not (.call 32 (.cons (.var 2) (.cons (.var 3) .nil))))
 (.cons (.ret (.bl false))
 .nil)
 .nil)
 .nil)
theorem sa_walk {C : Nat → Fun} (K : Nat) (hC : ∀ t d, closed t = true → closed d = true → depD d < K → ∀ h, callC (C 32) [t, d] h = some (.bl (sameD t d), h)) (x0 x1 : Option D) (len : Nat) (h : AH) : ∀ (ts ds : List D) (i : Nat) (x2 x3 : Option D), ts.length = ds.length → closeds ts = true → closeds ds = true → depDs ds < K →
    ∃ y2 y3, forL (.t (.cons (.v 2) (.cons (.v 3) .nil))) none len (exs C fuel saB) ((ts.zip ds).map fun p => D.tup [p.1, p.2]) i [x0, x1, x2, x3] h = some (if samesD ts ds then .nx else .rt (.bl false), [x0, x1, y2, y3], h)
  | [], [], i, x2, x3, _, _, _, _ => ⟨x2, x3, by simp [forL, okL, samesD]⟩
  | [], _ :: _, _, _, _, hl, _, _, _ => by simp at hl
  | _ :: _, [], _, _, _, hl, _, _, _ => by simp at hl
  | t :: ts, d :: ds, i, x2, x3, hl, ct, cd, hd => by
    simp only [closeds, Bool.and_eq_true] at ct cd
    simp only [depDs] at hd
    have c := hC t d ct.1 cd.1 (by omega) h
    cases hs : sameD t d with
    | false =>
      rw [hs] at c
      exact ⟨some t, some d, by simp [forL, okL, cur, put, puts, saB, c, samesD, hs]⟩
    | true =>
      rw [hs] at c
      obtain ⟨y2, y3, e⟩ := sa_walk K hC x0 x1 len h ts ds (i + 1) (some t) (some d) (by simpa using hl) ct.2 cd.2 (by omega)
      refine ⟨y2, y3, ?_⟩
      simp [forL, okL, cur, put, puts, saB, c, samesD, hs]
      simpa [saB] using e
theorem same_run : ∀ (k : Nat) (t d : D), closed t = true → closed d = true → depD d < k → tabF L fuel k 32 [t, d] [] = some (.bl (sameD t d), []) := by
  intro k
  induction k with
  | zero => intro t d _ _ h; omega
  | succ k ih =>
    intro t d ct cd hd
    have hC : ∀ t d, closed t = true → closed d = true → depD d < k → ∀ h, callC (tabF L fuel k 32) [t, d] h = some (.bl (sameD t d), h) := fun t d ct cd hd h => callV (by simp [ct, cd]) (ih t d ct cd hd) rfl
    rw [tab_step (d := d__law_same) rfl]
    cases d with
    | tup ds =>
      cases t with
      | tup ts =>
        by_cases hl : ts.length = ds.length
        · obtain ⟨y2, y3, e⟩ := sa_walk (fuel := fuel) (C := tabF L fuel k) k hC (some (.tup ts)) (some (.tup ds)) (ts.zip ds).length [] ts ds 0 none none hl ct cd (by simp only [depD] at hd; omega)
          have hl2 : ((ts.length : Int) == (ds.length : Int)) = true := by simp [hl]
          simp only [sameD, tupOf]
          simp [d__law_same, b__law_same, isTy, hl2, kFor_ap]
          rw [show (Ss.cons (S.ite ((Ex.call 32 (Exs.cons (Ex.var 2) (Exs.cons (Ex.var 3) Exs.nil))).not) (Ss.cons (S.ret (Ex.bl false)) Ss.nil) Ss.nil) Ss.nil) = saB from rfl]
          simp at e
          rw [e]
          cases samesD ts ds
          · simp; exact fin_0 rfl
          · simp; exact fin_0 rfl
        · have hl2 : ((ts.length : Int) == (ds.length : Int)) = false := by rw [beq_eq_false_iff_ne]; omega
          simp only [sameD, tupOf, sames_len ts ds hl]
          simp [d__law_same, b__law_same, isTy, hl2]
          exact fin_0 rfl
      | ref n => simp [closed] at ct
      | _ => simp [d__law_same, b__law_same, isTy, sameD, tupOf]; exact fin_0 rfl
    | non =>
      cases t with
      | ref n => simp [closed] at ct
      | _ => simp [d__law_same, b__law_same, isTy, sameD]; exact fin_0 rfl
    | bl b =>
      cases t with
      | ref n => simp [closed] at ct
      | _ => cases b <;> (simp [d__law_same, b__law_same, isTy, sameD]; exact fin_0 rfl)
    | int b =>
      cases t with
      | ref n => simp [closed] at ct
      | _ => simp [d__law_same, b__law_same, isTy, sameD]; exact fin_0 rfl
    | str b =>
      cases t with
      | ref n => simp [closed] at ct
      | _ => simp [d__law_same, b__law_same, isTy, sameD]; exact fin_0 rfl
    | lst ds =>
      cases t with
      | ref n => simp [closed] at ct
      | _ => simp [d__law_same, b__law_same, isTy, sameD]; exact fin_0 rfl
    | rol ds =>
      cases t with
      | ref n => simp [closed] at ct
      | _ => simp [d__law_same, b__law_same, isTy, sameD]; exact fin_0 rfl
    | ref n => simp [closed] at cd
theorem c_same {k : Nat} {t d : D} (ct : closed t = true) (cd : closed d = true) (hd : depD d < k) (h : AH) : callC (tabF L fuel k 32) [t, d] h = some (.bl (sameD t d), h) := callV (by simp [ct, cd]) (same_run k t d ct cd hd) rfl
theorem c_refl {k : Nat} {d : D} (cd : closed d = true) (hk : keyOk d = true) (hd : depD d < k) (h : AH) : callC (tabF L fuel k 32) [d, d] h = some (.bl true, h) := by
  rw [c_same cd cd hd, same_refl d hk]
end PyD.K16

namespace PyD.K16
open PyD
variable {fuel : Nat}
def outP (d : Dl) (p : Pc) : Int := match d.res.val (p.view d none) with
  | none => 0
  | some i => let m := if 5 < i then 5 else i; if m > 0 then m else 0
theorem outc_run {k : Nat} (hk : 5 ≤ k) (hf : 100 ≤ fuel) {d : Dl} (hd : d.ok) {p : Pc} (hp : p.ok d) : tabF L fuel k 13 [d.e, p.e] [] = some (.int (outP d p), []) := by
  obtain ⟨k, rfl⟩ : ∃ m, k = m + 1 := ⟨k - 1, by omega⟩
  have c1 : ∀ h, callC (tabF L fuel k 12) [d.e, p.e, .int (-1)] h = some ((p.view d none).sight, h) := fun h => callV (by simp) (sight_ok (fuel := fuel) (k := k) (by omega) hd hp none) (by simp)
  have c2 := fun h => c_worthV (fuel := fuel) (k := k) (by omega) hf hp none hd.rs h
  have j7 : ∀ H, index d.e (.int 7) H = some d.res.e := fun H => by simp [Dl.e]
  rw [tab_step (d := d_outcome_of) rfl]
  unfold outP
  cases hv : d.res.val (p.view d none) with
  | none =>
    rw [hv] at c2
    simp [d_outcome_of, b_outcome_of, c1, j7, c2, vE]
    exact fin_0 rfl
  | some i =>
    rw [hv] at c2
    simp [d_outcome_of, b_outcome_of, c1, j7, c2, vE]
    exact fin_0 rfl
theorem loutc_run {k : Nat} (hk : 7 ≤ k) {d : Dl} (hd : d.ok) {p : Pc} (hp : p.ok d) : tabF L fuel k 55 [d.e, p.e] [] = some (.int (outP d p), []) := by
  obtain ⟨k, rfl⟩ : ∃ m, k = m + 1 := ⟨k - 1, by omega⟩
  have c1 := fun h => c_sees0 (fuel := fuel) (k := k) (by omega) hd hp h
  have c2 := fun h => c_lsum (fuel := fuel) (k := k) (by omega) hp none hd.rs h
  have j7 : ∀ H, index d.e (.int 7) H = some d.res.e := fun H => by simp [Dl.e]
  rw [tab_step (d := d__law_outcome) rfl]
  unfold outP
  cases hv : d.res.val (p.view d none) with
  | none =>
    rw [hv] at c2
    simp [d__law_outcome, b__law_outcome, c1, j7, c2, vE]
    exact fin_0 rfl
  | some i =>
    rw [hv] at c2
    have e : (if i < 5 then i else 5) = (if (5 : Int) < i then 5 else i) := by split <;> split <;> omega
    simp [d__law_outcome, b__law_outcome, c1, j7, c2, vE, e]
    exact fin_0 rfl
/-! ### what may be tried -/
/-! ### the place behind a row -/
theorem eq_dawn {xs : List D} (hc : closeds xs = true) (hd : depDs xs ≤ 50) (h : AH) : cmpop .eq (.tup xs) (.tup [.str "dawn"]) h = some (eqDs xs [.str "dawn"]) := by
  show eqO _ _ _ = _
  unfold eqO
  rw [if_pos]
  · rfl
  · show (closed (.tup xs) && closed (.tup [.str "dawn"]) && decide (depD (.tup xs) ≤ 60) && decide (depD (.tup [.str "dawn"]) ≤ 60)) = true
    simp [hc, depD, depDs]
    omega
theorem flat_dep {w : D} (h : flat w = true) : depD w = 0 := by cases w <;> simp [flat] at h <;> rfl
theorem pb_act {k : Nat} (hk : 10 ≤ k) (hf : 100 ≤ fuel) {d : Dl} (hd : d.ok) {p : Pc} (hp : p.ok d) (n : Nat) (hn : n < d.dds.length) (w : D) (hw : flat w = true) : tabF L fuel k 23 [d.e, p.e, .tup [.str "do", .int n, w]] [] = some (pE (doneP d p n w), []) := by
  obtain ⟨k, rfl⟩ : ∃ m, k = m + 1 := ⟨k - 1, by omega⟩
  have hwc := flat_cl hw
  have c1 := c_istup (fuel := fuel) (k := k) (by omega) (.tup [.str "do", .int n, w]) (by simp [hwc]) []
  have c2 := c_num (fuel := fuel) (k := k) (by omega) (.int (n : Nat)) rfl 0 ((d.dds.length : Int) - 1) []
  have hnb : numB (.int (n : Nat)) 0 (some ((d.dds.length : Int) - 1)) = true := by simp [numB]; omega
  rw [hnb] at c2
  have c3 := c_deed (fuel := fuel) (k := k) (by omega) hf hd hp n hn w hw []
  have e1 := eq_dawn (xs := [.str "do", .int n, w]) (by simp [hwc]) (by simp [depDs, depD, flat_dep hw]) []
  have e2 : eqDs [.str "do", .int (n : Nat), w] [.str "dawn"] = false := rfl
  rw [e2] at e1
  have j5 : ∀ H, index d.e (.int 5) H = some (.tup (d.dds.map Dd.e)) := fun H => by simp [Dl.e]
  simp only [isT] at c1
  rw [tab_step (d := d_place_behind) rfl]
  simp [d_place_behind, b_place_behind, c1, e1, j5, c2, c3]
  exact fin_0 (by simp)
theorem pb_pass {k : Nat} (hk : 10 ≤ k) {d : Dl} (hd : d.ok) {p : Pc} (hp : p.ok d) (m : Nat) (hm : m < d.roles.length) : tabF L fuel k 23 [d.e, p.e, .tup [.str "pass", .int m]] [] = some (pE (passO d p m), []) := by
  obtain ⟨k, rfl⟩ : ∃ m, k = m + 1 := ⟨k - 1, by omega⟩
  have c1 := c_istup (fuel := fuel) (k := k) (by omega) (.tup [.str "pass", .int m]) rfl []
  have c2 := c_num (fuel := fuel) (k := k) (by omega) (.int (m : Nat)) rfl 0 ((d.roles.length : Int) - 1) []
  have hnb : numB (.int (m : Nat)) 0 (some ((d.roles.length : Int) - 1)) = true := by simp [numB]; omega
  rw [hnb] at c2
  have c3 := c_pass (fuel := fuel) (k := k) (by omega) hd hp m hm []
  have e1 := eq_dawn (xs := [.str "pass", .int m]) rfl (by simp [depDs, depD]) []
  have e2 : eqDs [.str "pass", .int (m : Nat)] [.str "dawn"] = false := rfl
  rw [e2] at e1
  have j5 : ∀ H, index d.e (.int 1) H = some (.tup (d.roles.map .str)) := fun H => by simp [Dl.e]
  simp only [isT] at c1
  rw [tab_step (d := d_place_behind) rfl]
  simp [d_place_behind, b_place_behind, c1, e1, j5, c2, c3]
  exact fin_0 (by simp)
theorem pb_dawn {k : Nat} (hk : 10 ≤ k) {d : Dl} (hd : d.ok) {p : Pc} (hp : p.ok d) : tabF L fuel k 23 [d.e, p.e, .tup [.str "dawn"]] [] = some (pE (dawnO d p), []) := by
  obtain ⟨k, rfl⟩ : ∃ m, k = m + 1 := ⟨k - 1, by omega⟩
  have c1 := c_istup (fuel := fuel) (k := k) (by omega) (.tup [.str "dawn"]) rfl []
  have c3 := c_dawnb (fuel := fuel) (k := k) (by omega) hd hp []
  have e1 := eq_dawn (xs := [.str "dawn"]) rfl (by simp [depDs, depD]) []
  have e2 : eqDs [.str "dawn"] [.str "dawn"] = true := rfl
  rw [e2] at e1
  simp only [isT] at c1
  rw [tab_step (d := d_place_behind) rfl]
  simp [d_place_behind, b_place_behind, c1, e1, c3]
  exact fin_0 (by simp)
/-- one word that is no dawn; two, three with a first part that is no such word or a number out of bounds -/
theorem eq_is (i : Int) (s : String) (h : AH) : cmpop .eq (.int i) (.str s) h = some false := rfl
theorem pb_three {k : Nat} (hk : 10 ≤ k) {d : Dl} {p : Pc} (v w : D) (hv : flat v = true) (hw : flat w = true) (hb : numB v 0 (some ((d.dds.length : Int) - 1)) = false) : tabF L fuel k 23 [d.e, p.e, .tup [.str "do", v, w]] [] = some (.non, []) := by
  obtain ⟨k, rfl⟩ : ∃ m, k = m + 1 := ⟨k - 1, by omega⟩
  have c1 := c_istup (fuel := fuel) (k := k) (by omega) (.tup [.str "do", v, w]) (by simp [flat_cl hv, flat_cl hw]) []
  have e1 := eq_dawn (xs := [.str "do", v, w]) (by simp [flat_cl hv, flat_cl hw]) (by simp [depDs, depD, flat_dep hv, flat_dep hw]) []
  have e2 : eqDs [.str "do", v, w] [.str "dawn"] = false := rfl
  rw [e2] at e1
  have c2 := c_num (fuel := fuel) (k := k) (by omega) v (flat_cl hv) 0 ((d.dds.length : Int) - 1) []
  rw [hb] at c2
  have j5 : ∀ H, index d.e (.int 5) H = some (.tup (d.dds.map Dd.e)) := fun H => by simp [Dl.e]
  simp only [isT] at c1
  rw [tab_step (d := d_place_behind) rfl]
  simp [d_place_behind, b_place_behind, c1, e1, j5, c2]
  exact fin_0 rfl
end PyD.K16

namespace PyD.K16
open PyD
variable {fuel : Nat}
@[simp] theorem Rws_cl (l) : closeds (List.map Rw.e l) = true := closeds_map _ Rw.cl l
/-! ### states: a stack, the top ahead -/
structure Fr where
  num : Nat
  pl : Pc
  call : Int
def Fr.e (f : Fr) : D := .tup [.int f.num, f.pl.e, .int f.call]
@[simp] theorem Fr.cl (f : Fr) : closed f.e = true := by simp [Fr.e]
@[simp] theorem Frs_cl (l) : closeds (List.map Fr.e l) = true := closeds_map _ Fr.cl l
def stD (st : List Fr) : D := .tup (st.reverse.map Fr.e)
@[simp] theorem stD_cl (st) : closed (stD st) = true := by rw [stD, closed]; exact Frs_cl _
@[simp] theorem stDs_cl (l) : closeds (List.map stD l) = true := closeds_map _ stD_cl l
def rsE (x : Rw × List Fr) : D := .tup [x.1.e, stD x.2]
@[simp] theorem rsE_cl (x) : closed (rsE x) = true := by simp [rsE]
@[simp] theorem rsEs_cl (l) : closeds (List.map rsE l) = true := closeds_map _ rsE_cl l
def bkD (bk : List Dl) : D := .tup (bk.map Dl.e)
@[simp] theorem bkD_cl (bk) : closed (bkD bk) = true := by rw [bkD, closed]; exact closeds_map _ Dl.cl _
/-- from the end -/
theorem index_neg {xs : List D} {x : D} {j : Nat} (h : AH) (h0 : 0 < j) (hj : j ≤ xs.length) (hx : xs[xs.length - j]? = some x) : index (.tup xs) (.int (-(j : Int))) h = some x := by
  have : place xs.length (-(j : Int)) = some (xs.length - j) := by
    unfold place
    rw [if_neg (by omega), if_pos (by omega)]
    congr 1
    omega
  show (place xs.length (-(j : Int))).bind (fun j => xs[j]?) = some x
  rw [this]
  exact hx
theorem cut_neg {xs : List D} {j : Nat} (h0 : 0 < j) (hj : j ≤ xs.length) : cut xs none (some (-(j : Int))) = xs.take (xs.length - j) := by
  have h1 : bnd xs.length xs.length (some (-(j : Int))) = xs.length - j := by
    show (if (-(j : Int)) < 0 then ((-(j : Int)) + xs.length).toNat else min (-(j : Int)).toNat xs.length) = xs.length - j
    rw [if_pos (by omega)]
    omega
  have h2 : bnd xs.length 0 none = 0 := rfl
  unfold cut
  rw [h1, h2]
  simp
theorem st_top (t : Fr) (r : List Fr) (h : AH) : index (stD (t :: r)) (.int (-1)) h = some t.e := by
  refine index_neg (j := 1) h (by omega) (by simp) ?_
  simp
theorem st_pen (t f : Fr) (r : List Fr) (h : AH) : index (stD (t :: f :: r)) (.int (-2)) h = some f.e := by
  refine index_neg (j := 2) h (by omega) (by simp) ?_
  simp
theorem st_cut1 (t : Fr) (r : List Fr) : cut ((t :: r).reverse.map Fr.e) none (some (-1)) = r.reverse.map Fr.e := by
  have := cut_neg (xs := (t :: r).reverse.map Fr.e) (j := 1) (by omega) (by simp)
  rw [show (-1 : Int) = -((1 : Nat) : Int) from rfl, this]
  simp
theorem st_cut2 (t f : Fr) (r : List Fr) : cut ((t :: f :: r).reverse.map Fr.e) none (some (-2)) = r.reverse.map Fr.e := by
  have := cut_neg (xs := (t :: f :: r).reverse.map Fr.e) (j := 2) (by omega) (by simp)
  rw [show (-2 : Int) = -((2 : Nat) : Int) from rfl, this]
  simp
theorem st_slc1 (t : Fr) (r : List Fr) (h : AH) : kSlc3 (stD (t :: r)) none (some (-1), h) = some (.tup (r.reverse.map Fr.e), h) := by
  rw [stD, kSlc3_ap, st_cut1]
theorem st_slc2 (t f : Fr) (r : List Fr) (h : AH) : kSlc3 (stD (t :: f :: r)) none (some (-2), h) = some (.tup (r.reverse.map Fr.e), h) := by
  rw [stD, kSlc3_ap, st_cut2]
theorem st_put (r : List Fr) (f : Fr) (hl : r.length ≤ 100) : binop .add (.tup (r.reverse.map Fr.e)) (.tup [f.e]) = some (stD (f :: r)) := by
  rw [add_t (by simp [lim]; omega)]
  simp [stD]
theorem st_put2 (r : List Fr) (f g : Fr) (hl : r.length ≤ 100) : binop .add (stD (f :: r)) (.tup [g.e]) = some (stD (g :: f :: r)) := by
  rw [stD, add_t (by simp [lim]; omega)]
  simp [stD]
theorem st_len (st : List Fr) (h : AH) : bltf .len [stD st] h = some (.int st.length) := by
  rw [stD, len_tup]
  simp
theorem st_at (st : List Fr) (i : Nat) (f : Fr) (hf : st.reverse[i]? = some f) (h : AH) : index (stD st) (.int i) h = some f.e := index_at rfl (by rw [List.getElem?_map, hf]; rfl)
theorem bk_at {bk : List Dl} {i : Nat} {d : Dl} (hd : bk[i]? = some d) (h : AH) : index (bkD bk) (.int (i : Nat)) h = some d.e := index_at rfl (by rw [List.getElem?_map, hd]; rfl)
/-! ### states that can be -/
structure Fr.ok (bk : List Dl) (f : Fr) (d : Dl) : Prop where
  at_ : bk[f.num]? = some d
  ok : f.pl.ok d
  dok : d.ok
structure Link (bk : List Dl) (g f : Fr) (d : Dl) (c : Cl) : Prop where
  at_ : d.cls[g.call.toNat]? = some c
  pos : 0 ≤ g.call
  inn : c.inner = g.num
def Sok (bk : List Dl) : List Fr → Prop
  | [] => False
  | [f] => (∃ d, f.ok bk d) ∧ f.call = -1
  | g :: f :: r => (∃ d, g.ok bk d) ∧ (∃ d c, f.ok bk d ∧ Link bk g f d c) ∧ Sok bk (f :: r)
/-- a book whose deals call what stands ahead -/
structure Bok (bk : List Dl) : Prop where
  ok : ∀ d ∈ bk, d.ok
  inn : ∀ (n : Nat) (d : Dl), bk[n]? = some d → ∀ c ∈ d.cls, c.inner < n ∧ ∃ e : Dl, bk[c.inner]? = some e ∧ c.handed.length = e.roles.length
  ne : bk ≠ []
  few : bk.length ≤ 9
end PyD.K16

namespace PyD.K16
open PyD
variable {fuel : Nat}
/-! ### a call -/
def callP (d : Dl) (p : Pc) (n : Nat) : Option Pc := match d.cls[n]? with
  | none => none
  | some c => if d.days ≤ p.day ∨ c.often ≤ p.dn.getD (d.dds.length + n) 0 ∨ c.when.val (p.view d (some c.role)) = false then none
    else some ⟨p.day, p.cs, p.ss, p.dn.set (d.dds.length + n) (p.dn.getD (d.dds.length + n) 0 + 1), List.replicate d.roles.length false⟩
theorem callP_ok {d : Dl} {p q : Pc} {n : Nat} (hp : p.ok d) (e : callP d p n = some q) : q.ok d ∧ p.day < d.days ∧ q.day = p.day := by
  unfold callP at e
  split at e
  · cases e
  · split at e
    · cases e
    · rename_i hc
      cases e
      refine ⟨⟨hp.c, hp.s, by simp [hp.n], hp.dy, hp.wr, by simp⟩, ?_, rfl⟩
      rcases Int.lt_or_le p.day d.days with hb | hb
      · exact hb
      · exact absurd (.inl hb) hc
theorem callb_run {k : Nat} (hk : 9 ≤ k) (hf : 100 ≤ fuel) {d : Dl} (hd : d.ok) {p : Pc} (hp : p.ok d) (n : Nat) (hn : n < d.cls.length) :
    tabF L fuel k 18 [d.e, p.e, .int n] [] = some (pE (callP d p n), []) := by
  obtain ⟨k, rfl⟩ : ∃ m, k = m + 1 := ⟨k - 1, by omega⟩
  have hx : d.cls[n]? = some d.cls[n] := List.getElem?_eq_getElem hn
  have hxo := hd.cl _ (List.mem_of_getElem? hx)
  generalize d.cls[n] = x at hx hxo
  have hnn : d.dds.length + n < p.dn.length := by rw [hp.n]; omega
  have hg : p.dn.getD (d.dds.length + n) 0 = p.dn[d.dds.length + n] := by simp [List.getD_eq_getElem?_getD, List.getElem?_eq_getElem hnn]
  have hnd := hd.nd
  have hnl := hd.nl
  have hnr := hd.nr
  have c1 : ∀ h, callC (tabF L fuel k 12) [d.e, p.e, .int (x.role : Nat)] h = some ((p.view d (some x.role)).sight, h) := fun h => callV (by simp) (sight_ok (fuel := fuel) (k := k) (by omega) hd hp (some x.role)) (by simp)
  have c2 := fun h => c_over (fuel := fuel) (k := k) (by omega) hp h
  have c3 := fun h => c_holds (fuel := fuel) (k := k) (by omega) hf hp (some x.role) hxo.w h
  have c6 : ∀ h, callC (tabF L fuel k 16) [.tup (p.dn.map .int), .int ((d.dds.length : Int) + (n : Int))] h = some (.tup ((p.dn.set (d.dds.length + n) (p.dn.getD (d.dds.length + n) 0 + 1)).map .int), h) := fun h => by
    have := callV (h := h) (by simp) (once_run (fuel := fuel) (k := k) (by omega) p.dn (d.dds.length + n) hnn (by rw [hp.n]; omega)) (by rw [closed_t]; exact ints_cl _)
    rwa [Int.natCast_add] at this
  have j1 : ∀ H, index d.e (.int 6) H = some (.tup (d.cls.map Cl.e)) := fun H => by simp [Dl.e]
  have j2 : ∀ H, index (.tup (d.cls.map Cl.e)) (.int (n : Nat)) H = some x.e := fun H => index_at rfl (by simp [hx])
  have j5 : ∀ H, index d.e (.int 5) H = some (.tup (d.dds.map Dd.e)) := fun H => by simp [Dl.e]
  have j9 : ∀ H, index d.e (.int 1) H = some (.tup (d.roles.map .str)) := fun H => by simp [Dl.e]
  have i0 : ∀ H, index p.e (.int 0) H = some (.int p.day) := fun H => by simp [Pc.e]
  have i1 : ∀ H, index p.e (.int 1) H = some (.tup (p.cs.map .int)) := fun H => by simp [Pc.e]
  have i2 : ∀ H, index p.e (.int 2) H = some (.tup (p.ss.map sE)) := fun H => by simp [Pc.e]
  have i3 : ∀ H, index p.e (.int 3) H = some (.tup (p.dn.map .int)) := fun H => by simp [Pc.e]
  have i4 : ∀ H, index (.tup (p.dn.map .int)) (.int ((d.dds.length : Int) + (n : Int))) H = some (.int (p.dn.getD (d.dds.length + n) 0)) := fun H => by
    have := index_at (h := H) (d := .tup (p.dn.map .int)) (n := d.dds.length + n) rfl (by rw [List.getElem?_map, List.getElem?_eq_getElem hnn, ← hg]; rfl)
    rwa [Int.natCast_add] at this
  have m3 := mul_t (x := .bl false) (n := d.roles.length) (by omega)
  have hput : ∀ a b c e f g h' r : Option D, put (.t (.cons (.v 3) (.cons (.v 4) (.cons (.v 5) (.cons (.v 6) (.cons (.v 7) (.cons (.v 8) (.cons (.v 9) .nil)))))))) x.e [some d.e, some p.e, some (.int n), a, b, c, e, f, g, h', r] = some [some d.e, some p.e, some (.int n), some (.str x.name), some (.int x.role), some (.int x.inner), some (.tup (x.handed.map fun i : Nat => .int i)), some x.when.e, some (.int x.ctr), some (.int x.often), r] := fun a b c e f g h' r => by simp [put, puts, Cl.e]
  rw [tab_step (d := d_call_behind) rfl]
  unfold callP
  simp only [hx]
  by_cases b1 : d.days ≤ p.day
  · rw [if_pos (.inl b1)]
    simp [d_call_behind, b_call_behind, j1, j2, hput, j5, c2, b1, pE]
    exact fin_0 rfl
  by_cases b2 : x.often ≤ p.dn.getD (d.dds.length + n) 0
  · rw [if_pos (.inr (.inl b2))]
    have hb : cmpop .ge (.int (p.dn.getD (d.dds.length + n) 0)) (.int x.often) [] = some true := by
      show some (decide _) = _
      rw [decide_eq_true (by omega)]
    generalize p.dn.getD (d.dds.length + n) 0 = G at *
    simp [d_call_behind, b_call_behind, j1, j2, hput, j5, c2, b1, i3, i4, hb, pE]
    exact fin_0 rfl
  have hb : cmpop .ge (.int (p.dn.getD (d.dds.length + n) 0)) (.int x.often) [] = some false := by
    show some (decide _) = _
    rw [decide_eq_false (by omega)]
  cases b3 : x.when.val (p.view d (some x.role)) with
  | false =>
    rw [if_pos (.inr (.inr rfl))]
    generalize p.dn.getD (d.dds.length + n) 0 = G at *
    rw [b3] at c3
    simp [d_call_behind, b_call_behind, j1, j2, hput, j5, c2, b1, i3, i4, hb, c1, c3, pE]
    exact fin_0 rfl
  | true =>
    rw [if_neg (by simp only [not_or]; exact ⟨b1, b2, by simp⟩)]
    generalize p.dn.getD (d.dds.length + n) 0 = G at *
    rw [b3] at c3
    generalize hDN : p.dn.set (d.dds.length + n) (G + 1) = DN at *
    simp [d_call_behind, b_call_behind, j1, j2, hput, j5, c2, b1, i0, i1, i2, i3, i4, hb, c1, c3, pE, c6, j9, m3]
    rw [fin_0]
    · simp [Pc.e]
    · simp
      exact rep_cl _ _ rfl
end PyD.K16

namespace PyD.K16
open PyD
variable {fuel : Nat}
theorem c_callb {k : Nat} (hk : 9 ≤ k) (hf : 100 ≤ fuel) {d : Dl} (hd : d.ok) {p : Pc} (hp : p.ok d) (n : Nat) (hn : n < d.cls.length) (h : AH) : callC (tabF L fuel k 18) [d.e, p.e, .int n] h = some (pE (callP d p n), h) :=
  callV (by simp) (callb_run hk hf hd hp n hn) (by simp)
theorem pb_call {k : Nat} (hk : 10 ≤ k) (hf : 100 ≤ fuel) {d : Dl} (hd : d.ok) {p : Pc} (hp : p.ok d) (m : Nat) (hm : m < d.cls.length) : tabF L fuel k 23 [d.e, p.e, .tup [.str "call", .int m]] [] = some (pE (callP d p m), []) := by
  obtain ⟨k, rfl⟩ : ∃ m, k = m + 1 := ⟨k - 1, by omega⟩
  have c1 := c_istup (fuel := fuel) (k := k) (by omega) (.tup [.str "call", .int m]) rfl []
  have c2 := c_num (fuel := fuel) (k := k) (by omega) (.int (m : Nat)) rfl 0 ((d.cls.length : Int) - 1) []
  have hnb : numB (.int (m : Nat)) 0 (some ((d.cls.length : Int) - 1)) = true := by simp [numB]; omega
  rw [hnb] at c2
  have c3 := c_callb (fuel := fuel) (k := k) (by omega) hf hd hp m hm []
  have e1 := eq_dawn (xs := [.str "call", .int m]) rfl (by simp [depDs, depD]) []
  have e2 : eqDs [.str "call", .int (m : Nat)] [.str "dawn"] = false := rfl
  rw [e2] at e1
  have j5 : ∀ H, index d.e (.int 6) H = some (.tup (d.cls.map Cl.e)) := fun H => by simp [Dl.e]
  simp only [isT] at c1
  rw [tab_step (d := d_place_behind) rfl]
  simp [d_place_behind, b_place_behind, c1, e1, j5, c2, c3]
  exact fin_0 (by simp)
def pbP (d : Dl) (p : Pc) : Rw → Option Pc
  | .act n w => doneP d p n (vE w)
  | .pass m => passO d p m
  | .dawn => dawnO d p
  | .call n => callP d p n
def Rw.okR (d : Dl) : Rw → Prop
  | .act n _ => n < d.dds.length
  | .pass m => m < d.roles.length
  | .dawn => True
  | .call n => n < d.cls.length
theorem vE_flat (w) : flat (vE w) = true := by cases w <;> rfl
theorem pb_run {k : Nat} (hk : 10 ≤ k) (hf : 100 ≤ fuel) {d : Dl} (hd : d.ok) {p : Pc} (hp : p.ok d) (r : Rw) (hr : r.okR d) : tabF L fuel k 23 [d.e, p.e, r.e] [] = some (pE (pbP d p r), []) := by
  cases r with
  | act n w => exact pb_act hk hf hd hp n hr (vE w) (vE_flat w)
  | pass m => exact pb_pass hk hd hp m hr
  | dawn => exact pb_dawn hk hd hp
  | call n => exact pb_call hk hf hd hp n hr
theorem c_pb {k : Nat} (hk : 10 ≤ k) (hf : 100 ≤ fuel) {d : Dl} (hd : d.ok) {p : Pc} (hp : p.ok d) (r : Rw) (hr : r.okR d) (h : AH) : callC (tabF L fuel k 23) [d.e, p.e, r.e] h = some (pE (pbP d p r), h) := callV (by simp) (pb_run hk hf hd hp r hr) (by simp)
theorem isnot_pE (o : Option Pc) (h : AH) : cmpop .isnot (pE o) .non h = some o.isSome := by cases o <;> rfl
/-! ### the outcome is told to the outer deal -/
def toldP (d : Dl) (p : Pc) (c : Cl) (o : Int) : Pc := ⟨p.day, p.cs.set c.ctr (if d.top c.ctr < o then d.top c.ctr else o), p.ss, p.dn, p.ps⟩
theorem toldP_ok {d : Dl} {p : Pc} (hp : p.ok d) (c : Cl) (o : Int) : (toldP d p c o).ok d := ⟨by simp [toldP, hp.c], hp.s, hp.n, hp.dy, hp.wr, hp.p⟩
theorem told_run {k : Nat} {d : Dl} (hd : d.ok) {p : Pc} (hp : p.ok d) (n : Nat) (c : Cl) (hc : d.cls[n]? = some c) (o : Int) : tabF L fuel (k + 1) 21 [d.e, p.e, .int n, .int o] [] = some ((toldP d p c o).e, []) := by
  have hco := hd.cl c (List.mem_of_getElem? hc)
  have hnc := hd.nc
  have hlt : c.ctr < p.cs.length := by rw [hp.c]; exact hco.c
  obtain ⟨t, hct⟩ : ∃ t, d.cts[c.ctr]? = some t := ⟨_, List.getElem?_eq_getElem hco.c⟩
  have htop : d.top c.ctr = t.top := by simp [Dl.top, hct]
  obtain ⟨m1, m2, m3, m4⟩ := mid_ok (xs := p.cs.map D.int) (n := c.ctr) (by simpa using hlt) (by simp [hp.c]; omega) (.int (if d.top c.ctr < o then d.top c.ctr else o))
  rw [htop] at m3 m4
  have j3 : ∀ H, index d.e (.int 3) H = some (.tup (d.cts.map Ct.e)) := fun H => by simp [Dl.e]
  have j6 : ∀ H, index d.e (.int 6) H = some (.tup (d.cls.map Cl.e)) := fun H => by simp [Dl.e]
  have j7 : ∀ H, index (.tup (d.cls.map Cl.e)) (.int (n : Nat)) H = some c.e := fun H => index_at rfl (by simp [hc])
  have j8 : ∀ H, index c.e (.int 5) H = some (.int c.ctr) := fun H => by simp [Cl.e]
  have j9 : ∀ H, index (.tup (d.cts.map Ct.e)) (.int (c.ctr : Nat)) H = some t.e := fun H => index_at rfl (by simp [hct])
  have j10 : ∀ H, index t.e (.int 1) H = some (.int t.top) := fun H => by simp [Ct.e]
  have i0 : ∀ H, index p.e (.int 0) H = some (.int p.day) := fun H => by simp [Pc.e]
  have i1 : ∀ H, index p.e (.int 1) H = some (.tup (p.cs.map .int)) := fun H => by simp [Pc.e]
  have hmin : ∀ H, bltf .min [.int o, .int t.top] H = some (.int (if t.top < o then t.top else o)) := fun H => rfl
  have hcut : ∀ H, kSlc3 p.e (some 2) (none, H) = some (.tup p.rest, H) := fun H => by
    have : cut [.int p.day, .tup (p.cs.map .int), .tup (p.ss.map sE), .tup (p.dn.map .int), .tup (p.ps.map .bl)] (some 2) none = p.rest := cut_from (n := 2) (by simp)
    simp only [Pc.e, kSlc3_ap, this]
  have hadd : ∀ x y : D, binop .add (.tup [x, y]) (.tup p.rest) = some (.tup (x :: y :: p.rest)) := fun x y => add_t (by simp [lim, Pc.rest])
  have hT : (toldP d p c o).e = .tup (.int p.day :: .tup ((p.cs.map .int).set c.ctr (.int (if t.top < o then t.top else o))) :: p.rest) := by
    simp only [toldP, Pc.e, Pc.rest, htop, List.map_set]
  rw [tab_step (d := d_told_outcome) rfl, hT]
  have hcl : closeds ((p.cs.map D.int).set c.ctr (.int (if t.top < o then t.top else o))) = true := by rw [← List.map_set]; exact ints_cl _
  generalize (if t.top < o then t.top else o) = M at *
  simp [d_told_outcome, b_told_outcome, j3, j6, j7, j8, j9, j10, hmin, i0, i1, m1, m2, m3, m4, hcut, hadd]
  exact fin_0 (by simp [hcl])
/-! ### can it be, what is behind it -/
/-- the state behind a row that is no call -/
def behT (bk : List Dl) (t : Fr) (r : List Fr) (q : Pc) : List Fr := match r with
  | [] => [⟨t.num, q, t.call⟩]
  | f :: r => match bk[t.num]? with
    | none => []
    | some d => if q.day < d.days then ⟨t.num, q, t.call⟩ :: f :: r else (match bk[f.num]? with
        | some e => (match e.cls[t.call.toNat]? with
          | some c => ⟨f.num, toldP e f.pl c (outP d q), f.call⟩ :: r
          | none => [])
        | none => [])
/-- the state behind a row -/
def behS (bk : List Dl) (t : Fr) (r : List Fr) (w : Rw) (q : Pc) : List Fr := match w with
  | .call n => match (bk[t.num]?.bind fun d => d.cls[n]?).bind fun c => bk[c.inner]?.map fun e => (c, e) with
    | some (c, e) => ⟨c.inner, e.first, n⟩ :: ⟨t.num, q, t.call⟩ :: r
    | none => []
  | _ => behT bk t r q
end PyD.K16

namespace PyD.K16
open PyD
variable {fuel : Nat}
theorem pbP_ok {d : Dl} {p q : Pc} (hp : p.ok d) {w : Rw} (e : pbP d p w = some q) : q.ok d ∧ p.day < d.days := by
  cases w with
  | act n v => exact doneP_ok hp e
  | call n => exact ⟨(callP_ok hp e).1, (callP_ok hp e).2.1⟩
  | pass m =>
    simp only [pbP, passO] at e
    split at e
    · cases e
    · rename_i hc
      cases e
      refine ⟨passP_ok hp m, ?_⟩
      rcases Int.lt_or_le p.day d.days with hb | hb
      · exact hb
      · exact absurd (.inl hb) hc
  | dawn =>
    simp only [pbP, dawnO] at e
    split at e
    · cases e
    · rename_i hc
      cases e
      have hb : p.day < d.days := by
        rcases Int.lt_or_le p.day d.days with hb | hb
        · exact hb
        · exact absurd (.inl hb) hc
      exact ⟨Pc.dawn_ok hp hb, hb⟩
def Rw.k : Rw → String
  | .act _ _ => "do"
  | .pass _ => "pass"
  | .dawn => "dawn"
  | .call _ => "call"
theorem Rw.ix (r : Rw) (H : AH) : index r.e (.int 0) H = some (.str r.k) := by cases r <;> rfl
theorem c_outc {k : Nat} (hk : 5 ≤ k) (hf : 100 ≤ fuel) {d : Dl} (hd : d.ok) {p : Pc} (hp : p.ok d) (h : AH) : callC (tabF L fuel k 13) [d.e, p.e] h = some (.int (outP d p), h) := callV (by simp) (outc_run hk hf hd hp) rfl
theorem c_told {k : Nat} (hk : 1 ≤ k) {d : Dl} (hd : d.ok) {p : Pc} (hp : p.ok d) (n : Nat) (c : Cl) (hc : d.cls[n]? = some c) (o : Int) (h : AH) : callC (tabF L fuel k 21) [d.e, p.e, .int n, .int o] h = some ((toldP d p c o).e, h) := by
  obtain ⟨k, rfl⟩ : ∃ m, k = m + 1 := ⟨k - 1, by omega⟩
  exact callV (by simp) (told_run hd hp n c hc o) (by simp)
def sr1 : Ss := (.cons (.ite (.cmp .eq (.idx (.var 2) (.int 0)) (.str "call"))
 (.cons (.set 8 (.idx (.idx (.idx (.var 6) (.int 6)) (.idx (.var 2) (.int 1))) (.int 2)))
 (.cons (.ret (.bin .add (.var 1) (.tup (.cons (.tup (.cons (.var 8) (.cons (.call 9 (.cons (.idx (.var 0) (.var 8)) .nil)) (.cons (.idx (.var 2) (.int 1)) .nil)))) .nil))))
 .nil))
 .nil)
 (.cons (.ite (.bop true (.cons (.cmp .gt (.blt .len (.cons (.var 1) .nil)) (.int 1)) (.cons (.call 10 (.cons (.var 6) (.cons (.var 7) .nil))) .nil)))
 (.cons (.asg (.t (.cons (.v 9) (.cons (.v 10) (.cons (.v 11) .nil)))) (.idx (.var 1) (.neg (.int 2))))
 (.cons (.set 10 (.call 21 (.cons (.idx (.var 0) (.var 9)) (.cons (.var 10) (.cons (.var 5) (.cons (.call 13 (.cons (.var 6) (.cons (.var 7) .nil))) .nil))))))
 (.cons (.ret (.bin .add (.slc (.var 1) .no (.so (.neg (.int 2)))) (.tup (.cons (.tup (.cons (.var 9) (.cons (.var 10) (.cons (.var 11) .nil)))) .nil))))
 .nil)))
 .nil)
 (.cons (.ret (.var 1))
 .nil)))
theorem b_step_eq : b_step_row = (.cons (.asg (.t (.cons (.v 3) (.cons (.v 4) (.cons (.v 5) .nil)))) (.idx (.var 1) (.neg (.int 1))))
 (.cons (.par2 6 7 (.idx (.var 0) (.var 3)) (.call 23 (.cons (.idx (.var 0) (.var 3)) (.cons (.var 4) (.cons (.var 2) .nil)))))
 (.cons (.set 1 (.bin .add (.slc (.var 1) .no (.so (.neg (.int 1)))) (.tup (.cons (.tup (.cons (.var 3) (.cons (.var 7) (.cons (.var 5) .nil)))) .nil)))) sr1))) := rfl
theorem Sok.top {bk : List Dl} {t : Fr} {r : List Fr} (h : Sok bk (t :: r)) : ∃ d, t.ok bk d := by
  cases r with
  | nil => exact h.1
  | cons f r => exact h.1
theorem stepT {k : Nat} (hk : 11 ≤ k + 1) (hf : 100 ≤ fuel) {bk : List Dl} (hb : Bok bk) {t : Fr} {r : List Fr} (hs : Sok bk (t :: r)) (hl : r.length ≤ 50) {d : Dl} (ht : t.ok bk d) (q : Pc) (hqo : q.ok d) (w : D) {s : String} (hsn : (s == "call") = false) (hix : ∀ H, index w (.int 0) H = some (.str s)) :
    (exs (tabF L fuel k) fuel sr1 [some (bkD bk), some (stD (⟨t.num, q, t.call⟩ :: r)), some w, some (.int t.num), some t.pl.e, some (.int t.call), some d.e, some q.e, none, none, none, none] []).bind (kRun false 0) = some (stD (behT bk t r q), []) := by
  have hlen := st_len (⟨t.num, q, t.call⟩ :: r)
  cases r with
  | nil =>
    simp only [List.length_cons, List.length_nil] at hlen
    simp [sr1, hix, hsn, hlen]
    exact fin_0 (by simp)
  | cons f r =>
    have hlb : decide ((((f :: r).length + 1 : Nat) : Int) > 1) = true := by simp; omega
    simp only [List.length_cons] at hlen hlb
    have c10 := fun h => c_over (fuel := fuel) (k := k) (by omega) (d := d) hqo h
    by_cases hd : q.day < d.days
    · have hB : behT bk t (f :: r) q = ⟨t.num, q, t.call⟩ :: f :: r := by simp [behT, ht.at_, hd]
      have hdb : decide (d.days ≤ q.day) = false := by simp; omega
      rw [hdb] at c10
      rw [hB]
      generalize ((r.length + 1 + 1 : Nat) : Int) = N at *
      simp only [gt_iff_lt] at hlb
      simp [sr1, hix, hsn, hlen, hlb, c10]
      exact fin_0 (by simp)
    · obtain ⟨_, ⟨e, c, hfo, hlk⟩, _⟩ := hs
      have hB : behT bk t (f :: r) q = ⟨f.num, toldP e f.pl c (outP d q), f.call⟩ :: r := by simp [behT, ht.at_, hd, hfo.at_, hlk.at_]
      have hdb : decide (d.days ≤ q.day) = true := by simp; omega
      rw [hdb] at c10
      rw [hB]
      have hpen := st_pen ⟨t.num, q, t.call⟩ f r
      have hfe : f.e = .tup [.int f.num, f.pl.e, .int f.call] := rfl
      have hbe := fun H => bk_at hfo.at_ H
      have c13 := fun h => c_outc (fuel := fuel) (k := k) (by omega) hf ht.dok hqo h
      have hcn : t.call = ((t.call.toNat : Nat) : Int) := by have := hlk.pos; omega
      have c21 := fun h => c_told (fuel := fuel) (k := k) (by omega) hfo.dok hfo.ok t.call.toNat c hlk.at_ (outP d q) h
      rw [← hcn] at c21
      have hs2 := st_slc2 ⟨t.num, q, t.call⟩ f r
      have hp1 := st_put r ⟨f.num, toldP e f.pl c (outP d q), f.call⟩ (by simp at hl; omega)
      have hge : Fr.e ⟨f.num, toldP e f.pl c (outP d q), f.call⟩ = .tup [.int f.num, (toldP e f.pl c (outP d q)).e, .int f.call] := rfl
      rw [hge] at hp1
      generalize ((r.length + 1 + 1 : Nat) : Int) = N at *
      rw [List.map_reverse] at hp1
      simp only [gt_iff_lt] at hlb
      simp [sr1, hix, hsn, hlen, hlb, c10, hpen, hfe, put, puts, hbe, c13, c21, hs2, hp1]
      exact fin_0 (by simp)
theorem step_run {k : Nat} (hk : 11 ≤ k) (hf : 100 ≤ fuel) {bk : List Dl} (hb : Bok bk) {t : Fr} {r : List Fr} (hs : Sok bk (t :: r)) (hl : r.length ≤ 50) {d : Dl} (ht : t.ok bk d) (w : Rw) (hw : w.okR d) (q : Pc) (hq : pbP d t.pl w = some q) :
    tabF L fuel k 24 [bkD bk, stD (t :: r), w.e] [] = some (stD (behS bk t r w q), []) := by
  obtain ⟨k, rfl⟩ : ∃ m, k = m + 1 := ⟨k - 1, by omega⟩
  have hqo := (pbP_ok ht.ok hq).1
  have c := c_pb (fuel := fuel) (k := k) (by omega) hf ht.dok ht.ok w hw []
  rw [hq] at c
  simp only [pE] at c
  have hst := st_top t r
  have hbk := fun H => bk_at ht.at_ H
  have hte : t.e = .tup [.int t.num, t.pl.e, .int t.call] := rfl
  have hs1 := st_slc1 t r
  have hp1 := st_put r ⟨t.num, q, t.call⟩ (by omega)
  have hfe : Fr.e ⟨t.num, q, t.call⟩ = .tup [.int t.num, q.e, .int t.call] := rfl
  rw [hfe] at hp1
  have h0 : exs (tabF L fuel k) fuel b_step_row [some (bkD bk), some (stD (t :: r)), some w.e, none, none, none, none, none, none, none, none, none] [] = exs (tabF L fuel k) fuel sr1 [some (bkD bk), some (stD (⟨t.num, q, t.call⟩ :: r)), some w.e, some (.int t.num), some t.pl.e, some (.int t.call), some d.e, some q.e, none, none, none, none] [] := by
    rw [b_step_eq]
    simp only [exs_cons, ex_asg, ex_par2, ex_set, ev_idx, ev_var, ev_neg, ev_int, List.getElem?_cons_zero, List.getElem?_cons_succ, kvar_ap, Option.bind_some, kIdx_ap, kNeg_ap, kIdx2_ap, hst, hte, kOut_eq, kAsg_ap, put, puts, List.set_cons_succ, List.set_cons_zero, kAsg2_ap, kSeq_nx, hbk, kP1_ap, ev_call, evs_cons, evs_nil, kEs_ap, kEs2_ap, kCall_ap, c, kP2_ap, ev_bin, ev_slc, kSlc_ap, evO_no, kSlc2_ap, evO_so, kO_ap, hs1, kBin_ap, ev_tup, kTup_ap, kBin2_ap, hp1, kSet_ap]
  rw [tab_step (d := d_step_row) rfl]
  show (exs (tabF L fuel k) fuel b_step_row [some (bkD bk), some (stD (t :: r)), some w.e, none, none, none, none, none, none, none, none, none] []).bind (kRun false 0) = _
  rw [h0]
  have hix := w.ix
  cases w with
  | call n =>
    obtain ⟨c', hc'⟩ : ∃ c', d.cls[n]? = some c' := ⟨_, List.getElem?_eq_getElem hw⟩
    obtain ⟨_, e, he, _⟩ := hb.inn t.num d ht.at_ c' (List.mem_of_getElem? hc')
    have heo := hb.ok e (List.mem_of_getElem? he)
    have c9 := c_begin (fuel := fuel) (k := k) (by omega) heo []
    have hbe := fun H => bk_at he H
    have j6 : ∀ H, index d.e (.int 6) H = some (.tup (d.cls.map Cl.e)) := fun H => by simp [Dl.e]
    have j7 : ∀ H, index (.tup (d.cls.map Cl.e)) (.int (n : Nat)) H = some c'.e := fun H => index_at rfl (by simp [hc'])
    have j8 : ∀ H, index c'.e (.int 2) H = some (.int c'.inner) := fun H => by simp [Cl.e]
    have jw : ∀ H, index (Rw.call n).e (.int 1) H = some (.int (n : Nat)) := fun H => rfl
    have hp2 := st_put2 r ⟨t.num, q, t.call⟩ ⟨c'.inner, e.first, n⟩ (by omega)
    have hge : Fr.e ⟨c'.inner, e.first, n⟩ = .tup [.int c'.inner, e.first.e, .int (n : Nat)] := rfl
    rw [hge] at hp2
    have hB : behS bk t r (.call n) q = ⟨c'.inner, e.first, n⟩ :: ⟨t.num, q, t.call⟩ :: r := by simp [behS, ht.at_, hc', he]
    rw [hB]
    simp [sr1, hix, Rw.k, j6, j7, j8, jw, hbe, c9, hp2]
    exact fin_0 (by simp)
  | act n v => exact stepT hk hf hb hs hl ht q hqo _ rfl hix
  | pass m => exact stepT hk hf hb hs hl ht q hqo _ rfl hix
  | dawn => exact stepT hk hf hb hs hl ht q hqo _ rfl hix
end PyD.K16

namespace PyD.K16
open PyD
variable {fuel : Nat}
/-! ### the first state -/
theorem bk_last {bk : List Dl} {d : Dl} (hn : bk ≠ []) (hd : bk[bk.length - 1]? = some d) (h : AH) : index (bkD bk) (.int (-1)) h = some d.e := by
  have hl : 0 < bk.length := List.length_pos_iff.mpr hn
  refine index_neg (j := 1) h (by omega) (by simp; omega) ?_
  rw [List.length_map, List.getElem?_map, hd]
  rfl
theorem Bok.last {bk : List Dl} (hb : Bok bk) : ∃ d, bk[bk.length - 1]? = some d ∧ d.ok := by
  have hl : 0 < bk.length := List.length_pos_iff.mpr hb.ne
  have : bk[bk.length - 1]? = some bk[bk.length - 1] := List.getElem?_eq_getElem (by omega)
  exact ⟨_, this, hb.ok _ (List.mem_of_getElem? this)⟩
def firstS (bk : List Dl) : List Fr := match bk[bk.length - 1]? with
  | some d => [⟨bk.length - 1, d.first, -1⟩]
  | none => []
theorem firstS_ok {bk : List Dl} (hb : Bok bk) : ∃ d, firstS bk = [⟨bk.length - 1, d.first, -1⟩] ∧ bk[bk.length - 1]? = some d ∧ Sok bk (firstS bk) := by
  obtain ⟨d, hd, ho⟩ := hb.last
  have e : firstS bk = [⟨bk.length - 1, d.first, -1⟩] := by simp [firstS, hd]
  exact ⟨d, e, hd, by rw [e]; exact ⟨⟨d, hd, Dl.first_ok ho, ho⟩, rfl⟩⟩
theorem bk_len (bk : List Dl) (h : AH) : bltf .len [bkD bk] h = some (.int bk.length) := by
  rw [bkD, len_tup, List.length_map]
theorem start_run {k : Nat} (hk : 2 ≤ k) {bk : List Dl} (hb : Bok bk) : tabF L fuel k 54 [bkD bk] [] = some (stD (firstS bk), []) := by
  obtain ⟨k, rfl⟩ : ∃ m, k = m + 1 := ⟨k - 1, by omega⟩
  obtain ⟨d, e, hd, _⟩ := firstS_ok hb
  have hl : 0 < bk.length := List.length_pos_iff.mpr hb.ne
  have c := c_first (fuel := fuel) (k := k) (by omega) (hb.ok d (List.mem_of_getElem? hd)) []
  have i := bk_last hb.ne hd
  have hn := bk_len bk
  have hsub : (bk.length : Int) - 1 = ((bk.length - 1 : Nat) : Int) := by omega
  rw [tab_step (d := d__law_start) rfl, e]
  simp [d__law_start, b__law_start, c, i, hn, stD, Fr.e, hsub]
  exact fin_0 (by simp)
theorem bstate_run {k : Nat} (hk : 2 ≤ k) {bk : List Dl} (hb : Bok bk) : tabF L fuel k 22 [bkD bk] [] = some (stD (firstS bk), []) := by
  obtain ⟨k, rfl⟩ : ∃ m, k = m + 1 := ⟨k - 1, by omega⟩
  obtain ⟨d, e, hd, _⟩ := firstS_ok hb
  have hl : 0 < bk.length := List.length_pos_iff.mpr hb.ne
  have c := c_begin (fuel := fuel) (k := k) (by omega) (hb.ok d (List.mem_of_getElem? hd)) []
  have i := bk_last hb.ne hd
  have hn := bk_len bk
  have hsub : (bk.length : Int) - 1 = ((bk.length - 1 : Nat) : Int) := by omega
  rw [tab_step (d := d_begin_state) rfl, e]
  simp [d_begin_state, b_begin_state, c, i, hn, stD, Fr.e, hsub]
  exact fin_0 (by simp)
/-! ### the law's dawn -/
theorem c_loutc {k : Nat} (hk : 7 ≤ k) {d : Dl} (hd : d.ok) {p : Pc} (hp : p.ok d) (h : AH) : callC (tabF L fuel k 55) [d.e, p.e] h = some (.int (outP d p), h) := callV (by simp) (loutc_run hk hd hp) rfl
theorem risen_run {k : Nat} (hk : 8 ≤ k) {bk : List Dl} {t : Fr} {r : List Fr} (hs : Sok bk (t :: r)) (hl : r.length ≤ 50) {d : Dl} (ht : t.ok bk d) (q : Pc) (hqo : q.ok d) : tabF L fuel k 57 [bkD bk, stD (t :: r), q.e] [] = some (stD (behT bk t r q), []) := by
  obtain ⟨k, rfl⟩ : ∃ m, k = m + 1 := ⟨k - 1, by omega⟩
  have hst := st_top t r
  have hbk := fun H => bk_at ht.at_ H
  have hte : t.e = .tup [.int t.num, t.pl.e, .int t.call] := rfl
  have hs1 := st_slc1 t r
  have hp1 := st_put r ⟨t.num, q, t.call⟩ (by omega)
  have hfe : Fr.e ⟨t.num, q, t.call⟩ = .tup [.int t.num, q.e, .int t.call] := rfl
  rw [hfe] at hp1
  have hlen := st_len (t :: r)
  have j2 : ∀ H, index d.e (.int 2) H = some (.int d.days) := fun H => by simp [Dl.e]
  have q0 : ∀ H, index q.e (.int 0) H = some (.int q.day) := fun H => by simp [Pc.e]
  rw [List.map_reverse] at hp1
  rw [tab_step (d := d__law_risen) rfl]
  cases r with
  | nil =>
    simp only [List.length_cons, List.length_nil] at hlen
    simp [behT, d__law_risen, b__law_risen, hst, hte, put, puts, hlen, hs1]
    simp at hp1
    simp [hp1]
    exact fin_0 (by simp)
  | cons f r =>
    have hlb : ((((f :: r).length + 1 : Nat) : Int) == 1) = false := by rw [beq_eq_false_iff_ne]; simp; omega
    simp only [List.length_cons] at hlen hlb
    by_cases hd : q.day < d.days
    · have hB : behT bk t (f :: r) q = ⟨t.num, q, t.call⟩ :: f :: r := by simp [behT, ht.at_, hd]
      rw [hB]
      generalize ((r.length + 1 + 1 : Nat) : Int) = N at *
      simp at hp1
      simp [d__law_risen, b__law_risen, hst, hte, put, puts, hlen, hlb, hs1, hbk, j2, q0, hd, hp1]
      exact fin_0 (by simp)
    · obtain ⟨_, ⟨e, c, hfo, hlk⟩, _⟩ := hs
      have hB : behT bk t (f :: r) q = ⟨f.num, toldP e f.pl c (outP d q), f.call⟩ :: r := by simp [behT, ht.at_, hd, hfo.at_, hlk.at_]
      rw [hB]
      have hpen := st_pen t f r
      have hfe2 : f.e = .tup [.int f.num, f.pl.e, .int f.call] := rfl
      have hbe := fun H => bk_at hfo.at_ H
      have c13 := fun h => c_loutc (fuel := fuel) (k := k) (by omega) ht.dok hqo h
      have hcn : t.call = ((t.call.toNat : Nat) : Int) := by have := hlk.pos; omega
      have hs2 := st_slc2 t f r
      have hp2 := st_put r ⟨f.num, toldP e f.pl c (outP d q), f.call⟩ (by simp at hl; omega)
      have hco := hfo.dok.cl c (List.mem_of_getElem? hlk.at_)
      have hnc := hfo.dok.nc
      have hlt : c.ctr < f.pl.cs.length := by rw [hfo.ok.c]; exact hco.c
      obtain ⟨u, hct⟩ : ∃ u, e.cts[c.ctr]? = some u := ⟨_, List.getElem?_eq_getElem hco.c⟩
      have htop : e.top c.ctr = u.top := by simp [Dl.top, hct]
      obtain ⟨m1, m2, m3, m4⟩ := mid_ok (xs := f.pl.cs.map D.int) (n := c.ctr) (by simpa using hlt) (by simp [hfo.ok.c]; omega) (.int (if u.top < outP d q then u.top else outP d q))
      have j3 : ∀ H, index e.e (.int 3) H = some (.tup (e.cts.map Ct.e)) := fun H => by simp [Dl.e]
      have j6 : ∀ H, index e.e (.int 6) H = some (.tup (e.cls.map Cl.e)) := fun H => by simp [Dl.e]
      have j7 : ∀ H, index (.tup (e.cls.map Cl.e)) (.int t.call) H = some c.e := fun H => by rw [hcn]; exact index_at rfl (by simp [hlk.at_])
      have j8 : ∀ H, index c.e (.int 5) H = some (.int c.ctr) := fun H => by simp [Cl.e]
      have j9 : ∀ H, index (.tup (e.cts.map Ct.e)) (.int (c.ctr : Nat)) H = some u.e := fun H => index_at rfl (by simp [hct])
      have j10 : ∀ H, index u.e (.int 1) H = some (.int u.top) := fun H => by simp [Ct.e]
      have i0 : ∀ H, index f.pl.e (.int 0) H = some (.int f.pl.day) := fun H => by simp [Pc.e]
      have i1 : ∀ H, index f.pl.e (.int 1) H = some (.tup (f.pl.cs.map .int)) := fun H => by simp [Pc.e]
      have hmin : ∀ H, bltf .min [.int (outP d q), .int u.top] H = some (.int (if u.top < outP d q then u.top else outP d q)) := fun H => rfl
      have hcut : ∀ H, kSlc3 f.pl.e (some 2) (none, H) = some (.tup f.pl.rest, H) := fun H => by
        have : cut [.int f.pl.day, .tup (f.pl.cs.map .int), .tup (f.pl.ss.map sE), .tup (f.pl.dn.map .int), .tup (f.pl.ps.map .bl)] (some 2) none = f.pl.rest := cut_from (n := 2) (by simp)
        simp only [Pc.e, kSlc3_ap, this]
      have hadd : ∀ x y : D, binop .add (.tup [x, y]) (.tup f.pl.rest) = some (.tup (x :: y :: f.pl.rest)) := fun x y => add_t (by simp [lim, Pc.rest])
      have hT : Fr.e ⟨f.num, toldP e f.pl c (outP d q), f.call⟩ = .tup [.int f.num, .tup (.int f.pl.day :: .tup ((f.pl.cs.map .int).set c.ctr (.int (if u.top < outP d q then u.top else outP d q))) :: f.pl.rest), .int f.call] := by
        simp only [Fr.e, toldP, Pc.e, Pc.rest, htop, List.map_set]
      rw [hT, List.map_reverse] at hp2
      generalize (if u.top < outP d q then u.top else outP d q) = M at *
      generalize ((r.length + 1 + 1 : Nat) : Int) = N at *
      simp [d__law_risen, b__law_risen, hst, hte, put, puts, hlen, hlb, hs1, hbk, j2, q0, hd, hpen, hfe2, hbe, j3, j6, j7, j8, j9, j10, i0, i1, c13, hmin, m1, m2, m3, m4, hcut, hadd, hs2, hp2]
      exact fin_0 (by simp)
end PyD.K16

namespace PyD.K16
open PyD
/-! ### plain law: the same rows -/
theorem pb_over {d : Dl} {p : Pc} (hb : d.days ≤ p.day) (r : Rw) : pbP d p r = none := by
  cases r with
  | act n w =>
    simp only [pbP, doneP]
    split
    · rfl
    · rw [if_pos (.inl hb)]
  | pass m => simp only [pbP, passO]; rw [if_pos (.inl hb)]
  | dawn => simp only [pbP, dawnO]; rw [if_pos (.inl hb)]
  | call n =>
    simp only [pbP, callP]
    split
    · rfl
    · rw [if_pos (.inl hb)]
def callsP (d : Dl) (p : Pc) : List (Rw × Pc) := (List.range d.cls.length).filterMap fun n => (callP d p n).map fun q => (Rw.call n, q)
def kdP (s : String) (x : Rw × Pc) : Bool := x.1.k == s
/-- all rows that can be, in order -/
def rowsA (d : Dl) (p : Pc) : List (Rw × Pc) := (rowsP d p).filter (kdP "do") ++ callsP d p ++ (rowsP d p).filter (kdP "pass") ++ (rowsP d p).filter (kdP "dawn")
theorem parts_ok {d : Dl} {p : Pc} (hb : ¬ d.days ≤ p.day) : (rowsP d p).filter (kdP "do") = (List.range d.dds.length).flatMap (fun n => (worthsP d p n).filterMap (actP d p n)) ∧ (rowsP d p).filter (kdP "pass") = (List.range p.ps.length).filterMap (pasP p) ∧ (rowsP d p).filter (kdP "dawn") = (if p.ps.all id then [(Rw.dawn, p.dawn)] else []) := by
  unfold rowsP
  rw [if_neg hb]
  have hA : ∀ x ∈ (List.range d.dds.length).flatMap (fun n => (worthsP d p n).filterMap (actP d p n)), x.1.k = "do" := fun x hx => by
    obtain ⟨n, _, hn⟩ := List.mem_flatMap.mp hx
    obtain ⟨w, _, hw⟩ := List.mem_filterMap.mp hn
    simp only [actP, Option.map_eq_some_iff] at hw
    obtain ⟨q, _, rfl⟩ := hw
    rfl
  have hB : ∀ x ∈ (List.range p.ps.length).filterMap (pasP p), x.1.k = "pass" := fun x hx => by
    obtain ⟨m, _, hm⟩ := List.mem_filterMap.mp hx
    simp only [pasP] at hm
    split at hm
    · cases hm
    · cases hm; rfl
  have hC : ∀ x ∈ (if p.ps.all id then [(Rw.dawn, p.dawn)] else []), x.1.k = "dawn" := fun x hx => by
    split at hx
    · cases List.mem_singleton.mp hx; rfl
    · cases hx
  generalize (List.range d.dds.length).flatMap (fun n => (worthsP d p n).filterMap (actP d p n)) = A at *
  generalize (List.range p.ps.length).filterMap (pasP p) = B at *
  generalize (if p.ps.all id then [(Rw.dawn, p.dawn)] else []) = C at *
  have yes : ∀ (s : String) (l : List (Rw × Pc)), (∀ x ∈ l, x.1.k = s) → l.filter (kdP s) = l := fun s l h => List.filter_eq_self.mpr fun x hx => by rw [kdP, h x hx]; exact beq_self_eq_true _
  have no : ∀ (s t : String) (l : List (Rw × Pc)), (∀ x ∈ l, x.1.k = s) → (s == t) = false → l.filter (kdP t) = [] := fun s t l h hst => List.filter_eq_nil_iff.mpr fun x hx => by rw [kdP, h x hx, hst]; exact Bool.false_ne_true
  simp only [List.filter_append, yes _ A hA, yes _ B hB, yes _ C hC, no "do" "pass" A hA (by decide), no "do" "dawn" A hA (by decide), no "pass" "do" B hB (by decide), no "pass" "dawn" B hB (by decide), no "dawn" "do" C hC (by decide), no "dawn" "pass" C hC (by decide), List.append_nil, List.nil_append, and_self]
theorem calls_over {d : Dl} {p : Pc} (hb : d.days ≤ p.day) : callsP d p = [] := by
  unfold callsP
  rw [List.filterMap_eq_nil_iff]
  intro n _
  have := pb_over hb (Rw.call n)
  simp only [pbP] at this
  rw [this]; rfl
theorem rows_pb {d : Dl} {p : Pc} (hp : p.ok d) : ∀ x ∈ rowsP d p, x.1.okR d ∧ pbP d p x.1 = some x.2 := fun x hx => by
  unfold rowsP at hx
  split at hx
  · cases hx
  rename_i hb
  rcases List.mem_append.mp hx with hx | hx
  · rcases List.mem_append.mp hx with hx | hx
    · obtain ⟨n, hn, hm⟩ := List.mem_flatMap.mp hx
      obtain ⟨w, _, hw⟩ := List.mem_filterMap.mp hm
      simp only [actP, Option.map_eq_some_iff] at hw
      obtain ⟨q, hq, rfl⟩ := hw
      exact ⟨List.mem_range.mp hn, hq⟩
    · obtain ⟨m, hm, hq⟩ := List.mem_filterMap.mp hx
      simp only [pasP] at hq
      split at hq
      · cases hq
      · rename_i h1
        cases hq
        refine ⟨by show m < d.roles.length; rw [← hp.p]; exact List.mem_range.mp hm, ?_⟩
        simp only [pbP, passO]
        rw [if_neg (by simp only [not_or]; exact ⟨hb, h1⟩)]
  · split at hx
    · rename_i h1
      cases List.mem_singleton.mp hx
      refine ⟨trivial, ?_⟩
      simp only [pbP, dawnO]
      rw [if_neg (by simp [hb, h1])]
    · cases hx
theorem rowsA_pb {d : Dl} {p : Pc} (hp : p.ok d) : ∀ x ∈ rowsA d p, x.1.okR d ∧ pbP d p x.1 = some x.2 := fun x hx => by
  unfold rowsA at hx
  rcases List.mem_append.mp hx with hx | hx
  · rcases List.mem_append.mp hx with hx | hx
    · rcases List.mem_append.mp hx with hx | hx
      · exact rows_pb hp x (List.mem_filter.mp hx).1
      · unfold callsP at hx
        obtain ⟨n, hn, hm⟩ := List.mem_filterMap.mp hx
        obtain ⟨q, hq, rfl⟩ := Option.map_eq_some_iff.mp hm
        exact ⟨List.mem_range.mp hn, hq⟩
    · exact rows_pb hp x (List.mem_filter.mp hx).1
  · exact rows_pb hp x (List.mem_filter.mp hx).1
theorem rowsA_len {d : Dl} {p : Pc} (hd : d.ok) (h : (rowsP d p).length ≤ 12000) : (rowsA d p).length ≤ 36200 := by
  have hnl := hd.nl
  have h1 := List.length_filter_le (kdP "do") (rowsP d p)
  have h2 := List.length_filter_le (kdP "pass") (rowsP d p)
  have h3 := List.length_filter_le (kdP "dawn") (rowsP d p)
  have h4 : (callsP d p).length ≤ 100 := by
    have := List.length_filterMap_le (fun n => (callP d p n).map fun q => (Rw.call n, q)) (List.range d.cls.length)
    rw [List.length_range] at this
    unfold callsP
    omega
  unfold rowsA
  simp only [List.length_append]
  omega
end PyD.K16

namespace PyD.K16
open PyD
variable {fuel : Nat}
def isK (s : String) : D → Bool
  | .tup [.tup (.str t :: _), _] => t == s
  | _ => false
theorem isK_ap (s : String) (x : Rw × Pc) : ∃ t l, rpE x = .tup [.tup (.str t :: l), x.2.e] ∧ isK s (rpE x) = (t == s) := by
  obtain ⟨r, p⟩ := x
  cases r <;> exact ⟨_, _, rfl, rfl⟩
theorem isK_kd (s : String) (x : Rw × Pc) : isK s (rpE x) = kdP s x := by obtain ⟨r, p⟩ := x; cases r <;> rfl
def apB : Ss := (.cons (.expr (.app (.var 6) (.tup (.cons (.var 8) (.cons (.bin .add (.slc (.var 1) .no (.so (.neg (.int 1)))) (.tup (.cons (.tup (.cons (.var 2) (.cons (.var 9) (.cons (.var 4) .nil)))) .nil))) .nil)))))
 .nil)
def daB : Ss := (.cons (.expr (.app (.var 6) (.tup (.cons (.var 8) (.cons (.call 57 (.cons (.var 0) (.cons (.var 1) (.cons (.var 9) .nil)))) .nil)))))
 .nil)
def caI : Ss := (.cons (.set 19 (.bin .add (.bin .add (.slc (.idx (.var 3) (.int 3)) .no (.so (.var 18))) (.tup (.cons (.bin .add (.idx (.idx (.var 3) (.int 3)) (.var 18)) (.int 1)) .nil))) (.slc (.idx (.var 3) (.int 3)) (.so (.bin .add (.var 18) (.int 1))) .no)))
 (.cons (.set 20 (.tup (.cons (.var 2) (.cons (.bin .add (.slc (.var 3) .no (.so (.int 3))) (.tup (.cons (.var 19) (.cons (.bin .mul (.tup (.cons (.bl false) .nil)) (.blt .len (.cons (.idx (.var 3) (.int 4)) .nil))) .nil)))) (.cons (.var 4) .nil)))))
 (.cons (.expr (.app (.var 6) (.tup (.cons (.tup (.cons (.str "call") (.cons (.var 10) .nil))) (.cons (.bin .add (.slc (.var 1) .no (.so (.neg (.int 1)))) (.tup (.cons (.var 20) (.cons (.tup (.cons (.var 13) (.cons (.call 36 (.cons (.idx (.var 0) (.var 13)) .nil)) (.cons (.var 10) .nil)))) .nil)))) .nil)))))
 .nil)))
def caC : Ex := (.bop true (.cons (.cmp .lt (.idx (.var 3) (.int 0)) (.idx (.var 5) (.int 2))) (.cons (.cmp .lt (.idx (.idx (.var 3) (.int 3)) (.var 18)) (.var 17)) (.cons (.call 34 (.cons (.var 15) (.cons (.var 3) (.cons (.call 35 (.cons (.var 5) (.cons (.var 3) (.cons (.var 12) .nil)))) .nil)))) .nil))))
def caB : Ss := (.cons (.set 18 (.bin .add (.blt .len (.cons (.idx (.var 5) (.int 5)) .nil)) (.var 10)))
 (.cons (.ite caC caI .nil)
 .nil))
def caT : Tg := (.t (.cons (.v 10) (.cons (.t (.cons (.v 11) (.cons (.v 12) (.cons (.v 13) (.cons (.v 14) (.cons (.v 15) (.cons (.v 16) (.cons (.v 17) .nil)))))))) .nil)))
def cpE (s : String) : Ex := (.comp (.var 21) (.v 21) (.seq (.var 7)) (.so (.cmp .eq (.idx (.idx (.var 21) (.int 0)) (.int 0)) (.str s))) [21])
def tg89 : Tg := (.t (.cons (.v 8) (.cons (.v 9) .nil)))
theorem b_srows_eq : b__law_state_rows = .cons (.asg (.t (.cons (.v 2) (.cons (.v 3) (.cons (.v 4) .nil)))) (.idx (.var 1) (.neg (.int 1))))
 (.cons (.par2 5 6 (.idx (.var 0) (.var 2)) (.fm (.disp .nil)))
 (.cons (.set 7 (.call 41 (.cons (.var 5) (.cons (.var 3) .nil))))
 (.cons (.for_ tg89 (.seq (cpE "do")) apB)
 (.cons (.for_ caT (.enum (.idx (.var 5) (.int 6))) caB)
 (.cons (.for_ tg89 (.seq (cpE "pass")) apB)
 (.cons (.for_ tg89 (.seq (cpE "dawn")) daB)
 (.cons (.ret (.var 6)) .nil))))))) := rfl
/-- the slots of state_rows -/
structure Ys where
  a : Option D
  b : Option D
  c : Option D
  d : Option D
  e : Option D
  f : Option D
  g : Option D
  h : Option D
  i : Option D
  j : Option D
  k : Option D
abbrev srS (bk : List Dl) (t : Fr) (r : List Fr) (d : Dl) (rs : List (Rw × Pc)) (y8 y9 : Option D) (Y : Ys) : Sl := [some (bkD bk), some (stD (t :: r)), some (.int t.num), some t.pl.e, some (.int t.call), some d.e, some (.ref 0), some (.lst (rs.map rpE)), y8, y9, Y.a, Y.b, Y.c, Y.d, Y.e, Y.f, Y.g, Y.h, Y.i, Y.j, Y.k, none]
theorem cpE_ok {C : Nat → Fun} (bk : List Dl) (t : Fr) (r : List Fr) (d : Dl) (rs : List (Rw × Pc)) (hrl : rs.length ≤ 12000) (y8 y9 : Option D) (Y : Ys) (s : String) (h : AH) : ev C (cpE s) (srS bk t r d rs y8 y9 Y) h = some (.lst ((rs.filter (kdP s)).map rpE), h) := by
  have cc := compL_map (σ := srS bk t r d rs y8 y9 Y) (tg := .v 21) (len := rs.length) (c := tstO C (.so (.cmp .eq (.idx (.idx (.var 21) (.int 0)) (.int 0)) (.str s)))) (e := ev C (.var 21)) (h := h) (isK s) (fun x => x) (rs.map rpE) 0 (fun x hx => by
    obtain ⟨y, _, rfl⟩ := List.mem_map.mp hx
    obtain ⟨u, l, e1, e2⟩ := isK_ap s y
    refine ⟨(srS bk t r d rs y8 y9 Y).set 21 (some (rpE y)), by simp [put], ?_, by simp⟩
    rw [e2, e1]
    simp)
  have hf : ((rs.map rpE).filter (isK s)).map (fun x => x) = (rs.filter (kdP s)).map rpE := by
    rw [List.map_id', List.filter_map]
    congr 2
    funext x
    exact isK_kd s x
  rw [hf] at cc
  have hlim : rs.length ≤ lim := by simp [lim]; omega
  simp [cpE, kComp_ap, hlim]
  rw [cc]
  simp
/-- a row with the state behind it -/
def rbS (bk : List Dl) (t : Fr) (r : List Fr) (x : Rw × Pc) : Rw × List Fr := (x.1, behS bk t r x.1 x.2)
theorem ap_ok {C : Nat → Fun} (bk : List Dl) (t : Fr) (r : List Fr) (hlr : r.length ≤ 50) (d : Dl) (rs l : List (Rw × Pc)) (b : Ss) (hb : (b = apB ∧ ∀ x ∈ l, behS bk t r x.1 x.2 = ⟨t.num, x.2, t.call⟩ :: r) ∨ (b = daB ∧ ∀ x ∈ l, ∀ h, callC (C 57) [bkD bk, stD (t :: r), x.2.e] h = some (stD (behS bk t r x.1 x.2), h))) (acc : List (Rw × List Fr)) (hl : l.length ≤ 12000) (ha : acc.length ≤ 30000) (x8 x9 : Option D) (Y : Ys) :
    ∃ (y8 y9 : Option D), forL tg89 none (l.map rpE).length (exs C fuel b) (l.map rpE) 0 (srS bk t r d rs x8 x9 Y) [.lst (acc.map rsE)] = some (.nx, srS bk t r d rs y8 y9 Y, [.lst ((acc ++ l.map (rbS bk t r)).map rsE)]) := by
  obtain ⟨f, σ', h', hw, rfl, y8, y9, rfl, rfl⟩ := for_ix (tg := tg89) (len := (l.map rpE).length) (b := exs C fuel b) (l.map rpE)
    (fun m σ h => ∃ (y8 y9 : Option D), σ = srS bk t r d rs y8 y9 Y ∧ h = [.lst ((acc ++ (l.take m).map (rbS bk t r)).map rsE)])
    (fun f σ h => f = .nx ∧ ∃ (y8 y9 : Option D), σ = srS bk t r d rs y8 y9 Y ∧ h = [.lst ((acc ++ l.map (rbS bk t r)).map rsE)])
    (fun σ h ⟨y8, y9, e1, e2⟩ => ⟨rfl, y8, y9, e1, by rw [e2, List.take_of_length_le]; simp⟩)
    (fun m x σ h hx ⟨y8, y9, e1, e2⟩ => by
      subst e1; subst e2
      have hm := (List.getElem?_eq_some_iff.mp hx).1
      simp at hm
      rw [List.getElem?_map, List.getElem?_eq_getElem hm] at hx
      simp only [Option.map_some, Option.some.injEq] at hx
      subst hx
      have hlm : l[m]? = some l[m] := List.getElem?_eq_getElem hm
      have hmem := List.getElem_mem hm
      have hz : (acc ++ (l.take (m + 1)).map (rbS bk t r)).map rsE = (acc ++ (l.take m).map (rbS bk t r)).map rsE ++ [rsE (rbS bk t r l[m])] := by rw [List.take_add_one, hlm]; simp only [Option.toList_some, List.map_append, List.map_cons, List.map_nil, List.append_assoc]
      generalize l[m] = q at hz hlm hmem
      have hlen : ((acc ++ (l.take m).map (rbS bk t r)).map rsE).length < lim := by simp [lim]; omega
      generalize (acc ++ (l.take m).map (rbS bk t r)).map rsE = A at hz hlen
      have a1 : kApp2 (.ref 0) (rsE (rbS bk t r q), [.lst A]) = some (.non, [.lst (A ++ [rsE (rbS bk t r q)])]) := app_r0 hlen
      have hs1 := st_slc1 t r
      have hp1 := st_put r ⟨t.num, q.2, t.call⟩ (by omega)
      have hfe : Fr.e ⟨t.num, q.2, t.call⟩ = .tup [.int t.num, q.2.e, .int t.call] := rfl
      rw [hfe, List.map_reverse] at hp1
      refine ⟨srS bk t r d rs (some q.1.e) (some q.2.e) Y, by simp [tg89, put, puts, rpE, srS], .nx, srS bk t r d rs (some q.1.e) (some q.2.e) Y, [.lst ((acc ++ (l.take (m + 1)).map (rbS bk t r)).map rsE)], ?_, _, _, rfl, rfl⟩
      rw [hz]
      rcases hb with ⟨rfl, hc⟩ | ⟨rfl, hc⟩
      · have hB := hc q hmem
        simp [rsE, rbS, hB] at a1
        simp [apB, hs1, hp1, a1, rsE, rbS, hB]
      · have hB := hc q hmem
        simp [rsE, rbS] at a1
        simp [daB, hB, a1, rsE, rbS])
    (srS bk t r d rs x8 x9 Y) [.lst (acc.map rsE)] ⟨x8, x9, rfl, by simp⟩
  exact ⟨y8, y9, hw⟩
end PyD.K16

namespace PyD.K16
open PyD
variable {fuel : Nat}
theorem st_put3 (r : List Fr) (f g : Fr) (hl : r.length ≤ 100) : binop .add (.tup (r.reverse.map Fr.e)) (.tup [f.e, g.e]) = some (stD (g :: f :: r)) := by
  rw [add_t (by simp [lim]; omega)]
  simp [stD]
theorem take3 (p : Pc) (H : AH) : kSlc3 p.e none (some 3, H) = some (.tup [.int p.day, .tup (p.cs.map .int), .tup (p.ss.map sE)], H) := by
  have : cut [.int p.day, .tup (p.cs.map .int), .tup (p.ss.map sE), .tup (p.dn.map .int), .tup (p.ps.map .bl)] none (some 3) = [.int p.day, .tup (p.cs.map .int), .tup (p.ss.map sE)] := cut_to (n := 3) (by simp)
  simp only [Pc.e, kSlc3_ap, this]
theorem caC_ok {k : Nat} (hk : 12 ≤ k) {bk : List Dl} {t : Fr} (r : List Fr) {d : Dl} (ht : t.ok bk d) (rs : List (Rw × Pc)) (n : Nat) (c : Cl) (hc : d.cls[n]? = some c) (x8 x9 : Option D) (y19 y20 : Option D) (h : AH) :
    ∃ b, ev (tabF L fuel k) caC (srS bk t r d rs x8 x9 ⟨some (.int n), some (.str c.name), some (.int c.role), some (.int c.inner), some (.tup (c.handed.map fun i : Nat => .int i)), some c.when.e, some (.int c.ctr), some (.int c.often), some (.int ((d.dds.length : Int) + n)), y19, y20⟩) h = some (.bl b, h) ∧
      callP d t.pl n = if b then some ⟨t.pl.day, t.pl.cs, t.pl.ss, t.pl.dn.set (d.dds.length + n) (t.pl.dn.getD (d.dds.length + n) 0 + 1), List.replicate d.roles.length false⟩ else none := by
  have hd := ht.dok
  have hp := ht.ok
  generalize hP : t.pl = p at *
  have hn : n < d.cls.length := (List.getElem?_eq_some_iff.mp hc).1
  have hxo := hd.cl c (List.mem_of_getElem? hc)
  have hnn : d.dds.length + n < p.dn.length := by rw [hp.n]; omega
  have hg : p.dn.getD (d.dds.length + n) 0 = p.dn[d.dds.length + n] := by simp [List.getD_eq_getElem?_getD, List.getElem?_eq_getElem hnn]
  have j2 : ∀ H, index d.e (.int 2) H = some (.int d.days) := fun H => by simp [Dl.e]
  have i0 : ∀ H, index p.e (.int 0) H = some (.int p.day) := fun H => by simp [Pc.e]
  have i3 : ∀ H, index p.e (.int 3) H = some (.tup (p.dn.map .int)) := fun H => by simp [Pc.e]
  have i4 : ∀ H, index (.tup (p.dn.map .int)) (.int ((d.dds.length : Int) + (n : Int))) H = some (.int (p.dn.getD (d.dds.length + n) 0)) := fun H => by
    have := index_at (h := H) (d := .tup (p.dn.map .int)) (n := d.dds.length + n) rfl (by rw [List.getElem?_map, List.getElem?_eq_getElem hnn, ← hg]; rfl)
    rwa [Int.natCast_add] at this
  have c1 := fun h => c_seesR (fuel := fuel) (k := k) (by omega) hd hp c.role h
  have c2 := fun h => c_lholds (fuel := fuel) (k := k) (by omega) hp (some c.role) hxo.w h
  unfold callP
  simp only [hc]
  generalize p.dn.getD (d.dds.length + n) 0 = G at *
  by_cases b1 : p.day < d.days
  case neg => exact ⟨false, by simp [caC, hP, i0, j2, b1], by rw [if_pos (.inl (by omega))]; rfl⟩
  by_cases b2 : G < c.often
  case neg => exact ⟨false, by simp [caC, hP, i0, j2, b1, i3, i4, b2], by rw [if_pos (.inr (.inl (by omega)))]; rfl⟩
  cases b3 : c.when.val (p.view d (some c.role)) with
  | false =>
    rw [b3] at c2
    exact ⟨false, by simp [caC, hP, i0, j2, b1, i3, i4, b2, c1, c2], by rw [if_pos (.inr (.inr rfl))]; rfl⟩
  | true =>
    rw [b3] at c2
    exact ⟨true, by simp [caC, hP, i0, j2, b1, i3, i4, b2, c1, c2], by rw [if_neg (by simp only [not_or]; exact ⟨by omega, by omega, by simp⟩)]; rfl⟩
/-- what a call makes -/
theorem caI_ok {k : Nat} (hk : 12 ≤ k) {bk : List Dl} (hb : Bok bk) {t : Fr} (r : List Fr) (hlr : r.length ≤ 50) {d : Dl} (ht : t.ok bk d) (rs : List (Rw × Pc)) (n : Nat) (c : Cl) (hc : d.cls[n]? = some c) (x8 x9 : Option D) (y19 y20 : Option D) (A : List D) (hA : A.length < lim) (q : Pc) (hq : q = ⟨t.pl.day, t.pl.cs, t.pl.ss, t.pl.dn.set (d.dds.length + n) (t.pl.dn.getD (d.dds.length + n) 0 + 1), List.replicate d.roles.length false⟩) :
    ∃ z19 z20, exs (tabF L fuel k) fuel caI (srS bk t r d rs x8 x9 ⟨some (.int n), some (.str c.name), some (.int c.role), some (.int c.inner), some (.tup (c.handed.map fun i : Nat => .int i)), some c.when.e, some (.int c.ctr), some (.int c.often), some (.int ((d.dds.length : Int) + n)), y19, y20⟩) [.lst A] = some (.nx, srS bk t r d rs x8 x9 ⟨some (.int n), some (.str c.name), some (.int c.role), some (.int c.inner), some (.tup (c.handed.map fun i : Nat => .int i)), some c.when.e, some (.int c.ctr), some (.int c.often), some (.int ((d.dds.length : Int) + n)), z19, z20⟩, [.lst (A ++ [rsE (rbS bk t r (Rw.call n, q))])]) := by
  have hd := ht.dok
  have hp := ht.ok
  have hn : n < d.cls.length := (List.getElem?_eq_some_iff.mp hc).1
  obtain ⟨_, e, he, _⟩ := hb.inn t.num d ht.at_ c (List.mem_of_getElem? hc)
  have heo := hb.ok e (List.mem_of_getElem? he)
  have hB : behS bk t r (.call n) q = ⟨c.inner, e.first, n⟩ :: ⟨t.num, q, t.call⟩ :: r := by simp [behS, ht.at_, hc, he]
  have hbe := fun H => bk_at he H
  have hs1 := st_slc1 t r
  have hp3 := st_put3 r ⟨t.num, q, t.call⟩ ⟨c.inner, e.first, n⟩ (by omega)
  have hfe : Fr.e ⟨t.num, q, t.call⟩ = .tup [.int t.num, q.e, .int t.call] := rfl
  have hge : Fr.e ⟨c.inner, e.first, n⟩ = .tup [.int c.inner, e.first.e, .int (n : Nat)] := rfl
  rw [hfe, hge, List.map_reverse] at hp3
  have hnd := hd.nd
  have hnl := hd.nl
  have hnr := hd.nr
  have c38 := fun h => c_first (fuel := fuel) (k := k) (by omega) heo h
  have a1 : kApp2 (.ref 0) (rsE (rbS bk t r (Rw.call n, q)), [.lst A]) = some (.non, [.lst (A ++ [rsE (rbS bk t r (Rw.call n, q))])]) := app_r0 hA
  have hre : rsE (rbS bk t r (Rw.call n, q)) = .tup [.tup [.str "call", .int n], stD (⟨c.inner, e.first, n⟩ :: ⟨t.num, q, t.call⟩ :: r)] := by simp only [rsE, rbS, hB]; rfl
  rw [hre] at a1 ⊢
  have hnn : d.dds.length + n < t.pl.dn.length := by rw [hp.n]; omega
  have hg : t.pl.dn.getD (d.dds.length + n) 0 = t.pl.dn[d.dds.length + n] := by simp [List.getD_eq_getElem?_getD, List.getElem?_eq_getElem hnn]
  have hqe : q.e = .tup [.int t.pl.day, .tup (t.pl.cs.map .int), .tup (t.pl.ss.map sE), .tup ((t.pl.dn.map D.int).set (d.dds.length + n) (.int (t.pl.dn.getD (d.dds.length + n) 0 + 1))), .tup (List.replicate t.pl.ps.length (.bl false))] := by
    rw [hq]; simp [Pc.e, List.map_set, hp.p]
  clear hq
  generalize hP : t.pl = p at *
  obtain ⟨m1, m2, m3, m4⟩ := mid_ok (xs := p.dn.map D.int) (n := d.dds.length + n) (by simpa using hnn) (by simp [hp.n]; omega) (.int (p.dn.getD (d.dds.length + n) 0 + 1))
  rw [Int.natCast_add] at m1 m2
  have i3 : ∀ H, index p.e (.int 3) H = some (.tup (p.dn.map .int)) := fun H => by simp [Pc.e]
  have i8 : ∀ H, index p.e (.int 4) H = some (.tup (p.ps.map .bl)) := fun H => by simp [Pc.e]
  have i4 : ∀ H, index (.tup (p.dn.map .int)) (.int ((d.dds.length : Int) + (n : Int))) H = some (.int (p.dn.getD (d.dds.length + n) 0)) := fun H => by
    have := index_at (h := H) (d := .tup (p.dn.map .int)) (n := d.dds.length + n) rfl (by rw [List.getElem?_map, List.getElem?_eq_getElem hnn, ← hg]; rfl)
    rwa [Int.natCast_add] at this
  have mm := mul_t (x := .bl false) (n := p.ps.length) (by rw [hp.p]; omega)
  have t3 := take3 p
  have ha5 : ∀ x y, binop .add (.tup [.int p.day, .tup (p.cs.map .int), .tup (p.ss.map sE)]) (.tup [x, y]) = some (.tup [.int p.day, .tup (p.cs.map .int), .tup (p.ss.map sE), x, y]) := fun x y => add_t (by simp [lim])
  generalize p.dn.getD (d.dds.length + n) 0 = G at *
  generalize (p.dn.map D.int).set (d.dds.length + n) (.int (G + 1)) = DN at *
  generalize List.replicate p.ps.length (D.bl false) = PS at *
  rw [hqe] at hp3
  refine ⟨some (.tup DN), some (.tup [.int t.num, .tup [.int p.day, .tup (p.cs.map .int), .tup (p.ss.map sE), .tup DN, .tup PS], .int t.call]), ?_⟩
  simp [caI, hP, i3, i4, i8, m1, m2, m3, m4, mm, t3, ha5, hs1, hbe, c38, hp3, a1]
end PyD.K16

namespace PyD.K16
open PyD
variable {fuel : Nat}
def callsM (d : Dl) (p : Pc) (m : Nat) : List (Rw × Pc) := (List.range m).filterMap fun n => (callP d p n).map fun q => (Rw.call n, q)
theorem callsM_len (d : Dl) (p : Pc) (m : Nat) : (callsM d p m).length ≤ m := by
  have := List.length_filterMap_le (fun n => (callP d p n).map fun q => (Rw.call n, q)) (List.range m)
  rw [List.length_range] at this
  exact this
theorem callsM_succ (d : Dl) (p : Pc) (m : Nat) : callsM d p (m + 1) = callsM d p m ++ ((callP d p m).map fun q => (Rw.call m, q)).toList := by
  unfold callsM
  rw [List.range_succ, List.filterMap_append, List.filterMap_cons]
  cases callP d p m <;> rfl
theorem ca_ok {k : Nat} (hk : 12 ≤ k) {bk : List Dl} (hb : Bok bk) {t : Fr} (r : List Fr) (hlr : r.length ≤ 50) {d : Dl} (ht : t.ok bk d) (rs : List (Rw × Pc)) (acc : List (Rw × List Fr)) (ha : acc.length ≤ 13000) (x8 x9 : Option D) (Y : Ys) :
    ∃ (Y' : Ys), forL caT none ((d.cls.map Cl.e).mapIdx fun i d => D.tup [.int i, d]).length (exs (tabF L fuel k) fuel caB) ((d.cls.map Cl.e).mapIdx fun i d => D.tup [.int i, d]) 0 (srS bk t r d rs x8 x9 Y) [.lst (acc.map rsE)] = some (.nx, srS bk t r d rs x8 x9 Y', [.lst ((acc ++ (callsP d t.pl).map (rbS bk t r)).map rsE)]) := by
  have hnl := ht.dok.nl
  obtain ⟨f, σ', h', hw, rfl, Y', rfl, rfl⟩ := for_ix (tg := caT) (len := ((d.cls.map Cl.e).mapIdx fun i d => D.tup [.int i, d]).length) (b := exs (tabF L fuel k) fuel caB) ((d.cls.map Cl.e).mapIdx fun i d => D.tup [.int i, d])
    (fun m σ h => ∃ (Y : Ys), σ = srS bk t r d rs x8 x9 Y ∧ h = [.lst ((acc ++ (callsM d t.pl m).map (rbS bk t r)).map rsE)])
    (fun f σ h => f = .nx ∧ ∃ (Y : Ys), σ = srS bk t r d rs x8 x9 Y ∧ h = [.lst ((acc ++ (callsP d t.pl).map (rbS bk t r)).map rsE)])
    (fun σ h ⟨Y, e1, e2⟩ => ⟨rfl, Y, e1, by rw [e2]; simp [callsM, callsP]⟩)
    (fun m x σ h hx ⟨Y, e1, e2⟩ => by
      subst e1; subst e2
      have hm := (List.getElem?_eq_some_iff.mp hx).1
      simp at hm
      rw [List.getElem?_mapIdx, List.getElem?_map] at hx
      obtain ⟨c, hc⟩ : ∃ c, d.cls[m]? = some c := ⟨_, List.getElem?_eq_getElem hm⟩
      rw [hc] at hx
      simp only [Option.map_some, Option.some.injEq] at hx
      subst hx
      have hl1 := callsM_len d t.pl m
      have hlen : ((acc ++ (callsM d t.pl m).map (rbS bk t r)).map rsE).length < lim := by simp [lim]; omega
      have hz : (acc ++ (callsM d t.pl (m + 1)).map (rbS bk t r)).map rsE = (acc ++ (callsM d t.pl m).map (rbS bk t r)).map rsE ++ (((callP d t.pl m).map fun q => (Rw.call m, q)).toList.map (rbS bk t r)).map rsE := by
        rw [callsM_succ]; simp only [List.map_append, List.append_assoc]
      rw [hz]
      generalize (acc ++ (callsM d t.pl m).map (rbS bk t r)).map rsE = A at hlen
      obtain ⟨b, eb, hcp⟩ := caC_ok (fuel := fuel) hk r ht rs m c hc x8 x9 Y.j Y.k [.lst A]
      have h18 : exs (tabF L fuel k) fuel caB (srS bk t r d rs x8 x9 ⟨some (.int m), some (.str c.name), some (.int c.role), some (.int c.inner), some (.tup (c.handed.map fun i : Nat => .int i)), some c.when.e, some (.int c.ctr), some (.int c.often), Y.i, Y.j, Y.k⟩) [.lst A] = (ex (tabF L fuel k) fuel (.ite caC caI .nil) (srS bk t r d rs x8 x9 ⟨some (.int m), some (.str c.name), some (.int c.role), some (.int c.inner), some (.tup (c.handed.map fun i : Nat => .int i)), some c.when.e, some (.int c.ctr), some (.int c.often), some (.int ((d.dds.length : Int) + m)), Y.j, Y.k⟩) [.lst A]).bind (kSeq (tabF L fuel k) fuel .nil) := by
        have j5 : ∀ H, index d.e (.int 5) H = some (.tup (d.dds.map Dd.e)) := fun H => by simp [Dl.e]
        simp [caB, j5]
      refine ⟨srS bk t r d rs x8 x9 ⟨some (.int m), some (.str c.name), some (.int c.role), some (.int c.inner), some (.tup (c.handed.map fun i : Nat => .int i)), some c.when.e, some (.int c.ctr), some (.int c.often), Y.i, Y.j, Y.k⟩, by simp [caT, put, puts, Cl.e, srS], ?_⟩
      rw [h18, ex_ite, tst_eq, eb]
      cases b with
      | false =>
        rw [hcp]
        exact ⟨.nx, srS bk t r d rs x8 x9 ⟨some (.int m), some (.str c.name), some (.int c.role), some (.int c.inner), some (.tup (c.handed.map fun i : Nat => .int i)), some c.when.e, some (.int c.ctr), some (.int c.often), some (.int ((d.dds.length : Int) + m)), Y.j, Y.k⟩, [.lst A], by simp, ⟨some (.int m), some (.str c.name), some (.int c.role), some (.int c.inner), some (.tup (c.handed.map fun i : Nat => .int i)), some c.when.e, some (.int c.ctr), some (.int c.often), some (.int ((d.dds.length : Int) + m)), Y.j, Y.k⟩, rfl, by simp⟩
      | true =>
        obtain ⟨z19, z20, ei⟩ := caI_ok (fuel := fuel) hk hb r hlr ht rs m c hc x8 x9 Y.j Y.k A hlen _ rfl
        rw [if_pos rfl] at hcp
        rw [hcp]
        generalize (⟨t.pl.day, t.pl.cs, t.pl.ss, t.pl.dn.set (d.dds.length + m) (t.pl.dn.getD (d.dds.length + m) 0 + 1), List.replicate d.roles.length false⟩ : Pc) = q at ei
        exact ⟨.nx, srS bk t r d rs x8 x9 ⟨some (.int m), some (.str c.name), some (.int c.role), some (.int c.inner), some (.tup (c.handed.map fun i : Nat => .int i)), some c.when.e, some (.int c.ctr), some (.int c.often), some (.int ((d.dds.length : Int) + m)), z19, z20⟩, [.lst (A ++ [rsE (rbS bk t r (Rw.call m, q))])], by simp [ei], ⟨some (.int m), some (.str c.name), some (.int c.role), some (.int c.inner), some (.tup (c.handed.map fun i : Nat => .int i)), some c.when.e, some (.int c.ctr), some (.int c.often), some (.int ((d.dds.length : Int) + m)), z19, z20⟩, rfl, by simp⟩)
    (srS bk t r d rs x8 x9 Y) [.lst (acc.map rsE)] ⟨Y, rfl, by simp [callsM]⟩
  exact ⟨Y', hw⟩
end PyD.K16

namespace PyD.K16
open PyD
variable {fuel : Nat}
theorem day_same {d : Dl} {p q : Pc} {w : Rw} (h : pbP d p w = some q) (hk : w.k = "do" ∨ w.k = "pass") : q.day = p.day := by
  cases w with
  | act n v =>
    simp only [pbP, doneP] at h
    split at h
    · cases h
    · split at h
      · cases h
      · split at h
        · cases h; rfl
        · cases h
  | pass m =>
    simp only [pbP, passO] at h
    split at h
    · cases h
    · cases h; rfl
  | dawn => simp [Rw.k] at hk
  | call n => simp [Rw.k] at hk
theorem beh_same {bk : List Dl} {t : Fr} (r : List Fr) {d : Dl} (ht : t.ok bk d) {w : Rw} {q : Pc} (h : pbP d t.pl w = some q) (hk : w.k = "do" ∨ w.k = "pass") : behS bk t r w q = ⟨t.num, q, t.call⟩ :: r := by
  have h1 := day_same h hk
  have h2 := (pbP_ok ht.ok h).2
  have hT : behT bk t r q = ⟨t.num, q, t.call⟩ :: r := by
    cases r with
    | nil => rfl
    | cons f r => simp only [behT, ht.at_]; rw [if_pos (by omega)]
  cases w with
  | act n v => exact hT
  | pass m => exact hT
  | dawn => simp [Rw.k] at hk
  | call n => simp [Rw.k] at hk
theorem k_of {d : Dl} {p : Pc} {s : String} {x : Rw × Pc} (h : x ∈ (rowsP d p).filter (kdP s)) : x ∈ rowsP d p ∧ x.1.k = s := by
  have := List.mem_filter.mp h
  exact ⟨this.1, by simpa [kdP] using this.2⟩
theorem srows_run {k : Nat} (hk : 15 ≤ k) {bk : List Dl} (hb : Bok bk) {t : Fr} {r : List Fr} (hs : Sok bk (t :: r)) (hlr : r.length ≤ 50) {d : Dl} (ht : t.ok bk d) : tabF L fuel k 56 [bkD bk, stD (t :: r)] [] = some (.lst (((rowsA d t.pl).map (rbS bk t r)).map rsE), []) := by
  obtain ⟨k, rfl⟩ : ∃ m, k = m + 1 := ⟨k - 1, by omega⟩
  have c1 := c_rows (fuel := fuel) (k := k) (by omega) ht.dok ht.ok [.lst []]
  have h2 := (rows_run (fuel := fuel) (k := 13) (by omega) ht.dok ht.ok).2
  have j6 : ∀ H, index d.e (.int 6) H = some (.tup (d.cls.map Cl.e)) := fun H => by simp [Dl.e]
  have hbk := fun H => bk_at ht.at_ H
  have hte : t.e = .tup [.int t.num, t.pl.e, .int t.call] := rfl
  have hst := st_top t r
  have u1 : ∀ x ∈ (rowsP d t.pl).filter (kdP "do"), behS bk t r x.1 x.2 = ⟨t.num, x.2, t.call⟩ :: r := fun x hx => beh_same r ht (rows_pb ht.ok x (k_of hx).1).2 (.inl (k_of hx).2)
  have u2 : ∀ x ∈ (rowsP d t.pl).filter (kdP "pass"), behS bk t r x.1 x.2 = ⟨t.num, x.2, t.call⟩ :: r := fun x hx => beh_same r ht (rows_pb ht.ok x (k_of hx).1).2 (.inr (k_of hx).2)
  have u3 : ∀ x ∈ (rowsP d t.pl).filter (kdP "dawn"), ∀ h, callC (tabF L fuel k 57) [bkD bk, stD (t :: r), x.2.e] h = some (stD (behS bk t r x.1 x.2), h) := fun x hx h => by
    have hq := (pbP_ok ht.ok (rows_pb ht.ok x (k_of hx).1).2).1
    have hx1 := (k_of hx).2
    have hB : behS bk t r x.1 x.2 = behT bk t r x.2 := by
      cases hw : x.1 with
      | act n v => rw [hw] at hx1; simp [Rw.k] at hx1
      | pass m => rw [hw] at hx1; simp [Rw.k] at hx1
      | call m => rw [hw] at hx1; simp [Rw.k] at hx1
      | dawn => rfl
    rw [hB]
    exact callV (by simp) (risen_run (by omega) hs hlr ht x.2 hq) (by simp)
  have q1 : ((rowsP d t.pl).filter (kdP "do")).length ≤ 12000 := Nat.le_trans (List.length_filter_le _ _) h2
  have q2 : ((rowsP d t.pl).filter (kdP "pass")).length ≤ 12000 := Nat.le_trans (List.length_filter_le _ _) h2
  have q3 : ((rowsP d t.pl).filter (kdP "dawn")).length ≤ 12000 := Nat.le_trans (List.length_filter_le _ _) h2
  have q4 : (callsP d t.pl).length ≤ 100 := Nat.le_trans (callsM_len d t.pl d.cls.length) ht.dok.nl
  have e1 := cpE_ok (C := tabF L fuel k) bk t r d (rowsP d t.pl) h2 none none ⟨none, none, none, none, none, none, none, none, none, none, none⟩ "do" [.lst []]
  obtain ⟨y8, y9, f1⟩ := ap_ok (fuel := fuel) (C := tabF L fuel k) bk t r hlr d (rowsP d t.pl) ((rowsP d t.pl).filter (kdP "do")) apB (.inl ⟨rfl, u1⟩) [] q1 (by simp) none none ⟨none, none, none, none, none, none, none, none, none, none, none⟩
  rw [List.nil_append] at f1
  obtain ⟨Y, fc⟩ := ca_ok (fuel := fuel) (k := k) (by omega) hb r hlr ht (rowsP d t.pl) (((rowsP d t.pl).filter (kdP "do")).map (rbS bk t r)) (by rw [List.length_map]; omega) y8 y9 ⟨none, none, none, none, none, none, none, none, none, none, none⟩
  rw [← List.map_append] at fc
  have e2 := cpE_ok (C := tabF L fuel k) bk t r d (rowsP d t.pl) h2 y8 y9 Y "pass" [.lst ((((rowsP d t.pl).filter (kdP "do") ++ callsP d t.pl).map (rbS bk t r)).map rsE)]
  obtain ⟨z8, z9, f2⟩ := ap_ok (fuel := fuel) (C := tabF L fuel k) bk t r hlr d (rowsP d t.pl) ((rowsP d t.pl).filter (kdP "pass")) apB (.inl ⟨rfl, u2⟩) (((rowsP d t.pl).filter (kdP "do") ++ callsP d t.pl).map (rbS bk t r)) q2 (by rw [List.length_map, List.length_append]; omega) y8 y9 Y
  rw [← List.map_append] at f2
  have e3 := cpE_ok (C := tabF L fuel k) bk t r d (rowsP d t.pl) h2 z8 z9 Y "dawn" [.lst ((((rowsP d t.pl).filter (kdP "do") ++ callsP d t.pl ++ (rowsP d t.pl).filter (kdP "pass")).map (rbS bk t r)).map rsE)]
  obtain ⟨w8, w9, f3⟩ := ap_ok (fuel := fuel) (C := tabF L fuel k) bk t r hlr d (rowsP d t.pl) ((rowsP d t.pl).filter (kdP "dawn")) daB (.inr ⟨rfl, u3⟩) (((rowsP d t.pl).filter (kdP "do") ++ callsP d t.pl ++ (rowsP d t.pl).filter (kdP "pass")).map (rbS bk t r)) q3 (by rw [List.length_map, List.length_append, List.length_append]; omega) z8 z9 Y
  rw [← List.map_append] at f3
  rw [tab_step (d := d__law_state_rows) rfl]
  show (exs (tabF L fuel k) fuel b__law_state_rows [some (bkD bk), some (stD (t :: r)), none, none, none, none, none, none, none, none, none, none, none, none, none, none, none, none, none, none, none, none] []).bind (kRun false 0) = _
  rw [b_srows_eq]
  simp only [exs_cons, ex_asg, ev_idx, ev_var, ev_neg, ev_int, List.getElem?_cons_zero, List.getElem?_cons_succ, kvar_ap, Option.bind_some, kIdx_ap, kNeg_ap, kIdx2_ap, hst, hte, kOut_eq, kAsg_ap, put, puts, List.set_cons_succ, List.set_cons_zero, kAsg2_ap, kSeq_nx, ex_par2, hbk, kP1_ap, ev_fm, evF_disp, evs_nil, kFm_ap, List.length_nil, List.nil_append, kP2_ap, ex_set, ev_call, evs_cons, kEs_ap, kEs2_ap, kCall_ap, c1, kSet_ap, ex_for, evI_seq]
  rw [e1]
  simp only [Option.bind_some, kSq_ap, items_lst, rfOf_lst, kSq2_ap, kFor_ap]
  rw [show ([AO.lst []] : AH) = [.lst (([] : List (Rw × List Fr)).map rsE)] from rfl, f1]
  simp only [Option.bind_some, kSeq_nx, exs_cons, ex_for, evI_enum, ev_idx, ev_var, ev_int, List.getElem?_cons_zero, List.getElem?_cons_succ, kvar_ap, kIdx_ap, kIdx2_ap, j6, kOut_eq, kEn_tup, kFor_ap]
  rw [fc]
  simp only [Option.bind_some, kSeq_nx, exs_cons, ex_for, evI_seq]
  rw [e2]
  simp only [Option.bind_some, kSq_ap, items_lst, rfOf_lst, kSq2_ap, kFor_ap]
  rw [f2]
  simp only [Option.bind_some, kSeq_nx, exs_cons, ex_for, evI_seq]
  rw [e3]
  simp only [Option.bind_some, kSq_ap, items_lst, rfOf_lst, kSq2_ap, kFor_ap]
  rw [f3]
  simp only [Option.bind_some, kSeq_nx, exs_cons, ex_ret, ev_var, List.getElem?_cons_zero, List.getElem?_cons_succ, kvar_ap, kRet_ap, kSeq_rt, kRun_rt]
  exact fin_r (rsEs_cl _)
end PyD.K16

namespace PyD.K16
open PyD
variable {fuel : Nat}
theorem eq_nil_l {xs : List D} (hc : closeds xs = true) (hd : depDs xs ≤ 50) (h : AH) : cmpop .eq (.lst xs) (.lst []) h = some (xs.length == 0) := by
  have e : eqO (.lst xs) (.lst []) h = some (eqD (.lst xs) (.lst [])) := by
    unfold eqO
    rw [if_pos]
    · rfl
    · show (closed (.lst xs) && closed (.lst []) && decide (depD (.lst xs) ≤ 60) && decide (depD (.lst []) ≤ 60)) = true
      simp [hc, depD, depDs]
      omega
  show eqO _ _ _ = _
  rw [e]
  cases xs <;> rfl
theorem fin_run {a b c : List D} (ha : closeds a = true) (hb : closeds b = true) (hc : closeds c = true) : fin false 1 (.tup [.ref 1, .ref 2]) [.lst a, .lst b, .lst c] = some (.tup [.lst b, .lst c], [.lst a]) := by
  simp [fin, closedO, ha, mapR, mapRs, fzR, mapRs_c b hb, mapRs_c c hc]
theorem rw_key (r : Rw) : keyOk r.e = true ∧ depD r.e ≤ 1 := by
  cases r with
  | act n w => cases w <;> exact ⟨rfl, by simp [Rw.e, vE, depD, depDs]⟩
  | pass m => exact ⟨rfl, by simp [Rw.e, depD, depDs]⟩
  | dawn => exact ⟨rfl, by simp [Rw.e, depD, depDs]⟩
  | call m => exact ⟨rfl, by simp [Rw.e, depD, depDs]⟩
theorem fr_key (f : Fr) : keyOk f.e = true ∧ depD f.e ≤ 9 := by
  have h := f.pl.key
  simp only [kyD, Bool.and_eq_true, decide_eq_true_eq] at h
  obtain ⟨⟨h1, h2⟩, _⟩ := h
  simp only [Fr.e, keyOk, keyOks, h1, depD, depDs, Bool.and_self, true_and]
  omega
theorem st_key (st : List Fr) : keyOk (stD st) = true ∧ depD (stD st) ≤ 10 := by
  have h1 := keyOks_map Fr.e (fun f => (fr_key f).1) st.reverse
  have h2 := depDs_map Fr.e 9 (fun f => (fr_key f).2) st.reverse
  exact ⟨h1, by simp only [stD, depD]; omega⟩
theorem rsE_dep (l : List (Rw × List Fr)) : depDs (l.map rsE) ≤ 50 := by
  have := depDs_map rsE 20 (fun x => by
    have h1 := (rw_key x.1).2
    have h2 := (st_key x.2).2
    simp only [rsE, depD, depDs]
    omega) l
  omega
/-! ### states stay states -/
theorem Sok.rtop {bk : List Dl} {t : Fr} {r : List Fr} (h : Sok bk (t :: r)) {d : Dl} (ht : t.ok bk d) {q : Pc} (hq : q.ok d) : Sok bk (⟨t.num, q, t.call⟩ :: r) := by
  have ho : Fr.ok bk ⟨t.num, q, t.call⟩ d := ⟨ht.at_, hq, ht.dok⟩
  cases r with
  | nil => exact ⟨⟨d, ho⟩, h.2⟩
  | cons f r =>
    obtain ⟨_, ⟨e, c, hf, hl⟩, hr⟩ := h
    exact ⟨⟨d, ho⟩, ⟨e, c, hf, ⟨hl.at_, hl.pos, hl.inn⟩⟩, hr⟩
theorem Sok.num {bk : List Dl} (hb : Bok bk) : ∀ {t : Fr} {r : List Fr}, Sok bk (t :: r) → t.num + r.length < bk.length
  | t, [], h => by
    obtain ⟨⟨d, hd⟩, _⟩ := h
    have := (List.getElem?_eq_some_iff.mp hd.at_).1
    simpa using this
  | t, f :: r, h => by
    obtain ⟨_, ⟨e, c, hf, hl⟩, hr⟩ := h
    have h1 := Sok.num hb hr
    have h2 := (hb.inn f.num e hf.at_ c (List.mem_of_getElem? hl.at_)).1
    have h3 := hl.inn
    simp only [List.length_cons]
    omega
theorem Sok.beh {bk : List Dl} (hb : Bok bk) {t : Fr} {r : List Fr} (h : Sok bk (t :: r)) {d : Dl} (ht : t.ok bk d) {w : Rw} {q : Pc} (hw : w.okR d) (hq : pbP d t.pl w = some q) : Sok bk (behS bk t r w q) := by
  have hqo := (pbP_ok ht.ok hq).1
  have h0 := h.rtop ht hqo
  have hT : Sok bk (behT bk t r q) := by
    cases r with
    | nil => exact h0
    | cons f r =>
      obtain ⟨_, ⟨e, c, hf, hl⟩, hr⟩ := h
      simp only [behT, ht.at_]
      by_cases hd : q.day < d.days
      · rw [if_pos hd]; exact h0
      · rw [if_neg hd, hf.at_]
        simp only [hl.at_]
        exact hr.rtop hf (toldP_ok hf.ok c _)
  cases w with
  | act n v => exact hT
  | pass m => exact hT
  | dawn => exact hT
  | call n =>
    obtain ⟨c, hc⟩ : ∃ c, d.cls[n]? = some c := ⟨_, List.getElem?_eq_getElem hw⟩
    obtain ⟨_, e, he, _⟩ := hb.inn t.num d ht.at_ c (List.mem_of_getElem? hc)
    have heo := hb.ok e (List.mem_of_getElem? he)
    have hB : behS bk t r (.call n) q = ⟨c.inner, e.first, n⟩ :: ⟨t.num, q, t.call⟩ :: r := by simp [behS, ht.at_, hc, he]
    rw [hB]
    exact ⟨⟨e, he, Dl.first_ok heo, heo⟩, ⟨d, c, ⟨ht.at_, hqo, ht.dok⟩, ⟨by simpa using hc, by simp, rfl⟩⟩, h0⟩
/-! ### a run -/
structure Run (bk : List Dl) (rws : List Rw) (SS : List (List Fr)) : Prop where
  len : SS.length = rws.length + 1
  hd : SS[0]? = some (firstS bk)
  ok : ∀ s ∈ SS, Sok bk s
  st : ∀ (i : Nat) (w : Rw), rws[i]? = some w → ∃ (t : Fr) (r : List Fr) (d : Dl) (q : Pc), SS[i]? = some (t :: r) ∧ t.ok bk d ∧ (w, q) ∈ rowsA d t.pl ∧ SS[i + 1]? = some (behS bk t r w q)
theorem Run.one {bk : List Dl} (hb : Bok bk) : Run bk [] [firstS bk] := ⟨rfl, rfl, fun s hs => by cases List.mem_singleton.mp hs; exact (firstS_ok hb).choose_spec.2.2, fun i w h => by simp at h⟩
theorem Run.more {bk : List Dl} (hb : Bok bk) {rws : List Rw} {SS : List (List Fr)} (h : Run bk rws SS) {t : Fr} {r : List Fr} (hl : SS[rws.length]? = some (t :: r)) {d : Dl} (ht : t.ok bk d) {x : Rw × Pc} (hx : x ∈ rowsA d t.pl) : Run bk (rws ++ [x.1]) (SS ++ [behS bk t r x.1 x.2]) := by
  have hS := h.ok _ (List.mem_of_getElem? hl)
  obtain ⟨h1, h2⟩ := rowsA_pb ht.ok x hx
  have hlen := h.len
  refine ⟨by simp [hlen], ?_, ?_, ?_⟩
  · rw [List.getElem?_append_left (by omega)]; exact h.hd
  · intro s hs
    rcases List.mem_append.mp hs with hs | hs
    · exact h.ok s hs
    · cases List.mem_singleton.mp hs; exact hS.beh hb ht h1 h2
  · intro i w hi
    by_cases hlt : i < rws.length
    · rw [List.getElem?_append_left hlt] at hi
      obtain ⟨t', r', d', q', a1, a2, a3, a4⟩ := h.st i w hi
      exact ⟨t', r', d', q', by rw [List.getElem?_append_left (by omega)]; exact a1, a2, a3, by rw [List.getElem?_append_left (by omega)]; exact a4⟩
    · rw [List.getElem?_append_right (by omega)] at hi
      have h0 : i - rws.length = 0 := by
        rcases Nat.eq_zero_or_pos (i - rws.length) with h | h
        · exact h
        · rw [List.getElem?_eq_none (by simp; omega)] at hi; cases hi
      rw [h0] at hi
      simp only [List.getElem?_cons_zero, Option.some.injEq] at hi
      subst hi
      have hi : i = rws.length := by omega
      subst hi
      exact ⟨t, r, d, x.2, by rw [List.getElem?_append_left (by omega)]; exact hl, ht, hx, by rw [List.getElem?_append_right (by omega), show rws.length + 1 - SS.length = 0 by omega]; rfl⟩
end PyD.K16

namespace PyD.K16
open PyD
variable {fuel : Nat}
def ruB : Ss := (.cons (.set 7 (.call 56 (.cons (.var 1) (.cons (.var 3) .nil))))
 (.cons (.ite (.cmp .eq (.var 7) (.fv (.disp .nil)))
 (.cons (.ret (.tup (.cons (.var 4) (.cons (.var 5) .nil))))
 .nil)
 .nil)
 (.cons (.asg (.t (.cons (.v 8) (.cons (.v 3) .nil))) (.call 31 (.cons (.var 0) (.cons (.var 7) .nil))))
 (.cons (.expr (.app (.var 4) (.var 8)))
 (.cons (.expr (.app (.var 5) (.var 3)))
 .nil)))))
theorem b_run_eq : b__law_run = .cons (.par2 3 4 (.call 54 (.cons (.var 1) .nil)) (.fm (.disp .nil))) (.cons (.set 5 (.fm (.disp (.cons (.var 3) .nil)))) (.cons (.for_ (.v 6) (.rng1 (.var 2)) ruB) (.cons (.ret (.tup (.cons (.var 4) (.cons (.var 5) .nil)))) .nil))) := rfl
theorem run_run {k : Nat} (hk : 17 ≤ k) {bk : List Dl} (hb : Bok bk) (N : Nat) (hN : N ≤ 1000) (s : Bx) : ∃ (rws : List Rw) (SS : List (List Fr)) (s' : Bx), tabF L fuel k 58 [.ref 0, bkD bk, .int (N : Nat)] [.lst s.ds] = some (.tup [.lst (rws.map Rw.e), .lst (SS.map stD)], [.lst s'.ds]) ∧ Run bk rws SS ∧ rws.length ≤ N := by
  obtain ⟨k, rfl⟩ : ∃ m, k = m + 1 := ⟨k - 1, by omega⟩
  have hrng : rng 0 (N : Nat) = some ((List.range N).map fun i => .int (i : Nat)) := rng_n (by omega)
  have cs := fun h => callV (h := h) (by simp) (start_run (fuel := fuel) (k := k) (by omega) hb) (by simp)
  obtain ⟨f, σ', h', hw, s', rws, SS, st, y6, y7, y8, hf, rfl, rfl, g1, g2⟩ := for_ix (tg := .v 6) (len := N) (b := exs (tabF L fuel k) fuel ruB) ((List.range N).map fun i => D.int (i : Nat))
    (fun m σ h => ∃ (s' : Bx) (rws : List Rw) (SS : List (List Fr)) (st : List Fr) (y6 y7 y8 : Option D), σ = [some (.ref 0), some (bkD bk), some (.int (N : Nat)), some (stD st), some (.ref 1), some (.ref 2), y6, y7, y8] ∧ h = [.lst s'.ds, .lst (rws.map Rw.e), .lst (SS.map stD)] ∧ SS[rws.length]? = some st ∧ Run bk rws SS ∧ rws.length ≤ m)
    (fun f σ h => ∃ (s' : Bx) (rws : List Rw) (SS : List (List Fr)) (st : List Fr) (y6 y7 y8 : Option D), (f = .nx ∨ f = .rt (.tup [.ref 1, .ref 2])) ∧ σ = [some (.ref 0), some (bkD bk), some (.int (N : Nat)), some (stD st), some (.ref 1), some (.ref 2), y6, y7, y8] ∧ h = [.lst s'.ds, .lst (rws.map Rw.e), .lst (SS.map stD)] ∧ Run bk rws SS ∧ rws.length ≤ N)
    (fun σ h ⟨s', rws, SS, st, y6, y7, y8, e1, e2, g1, g2, g3⟩ => ⟨s', rws, SS, st, y6, y7, y8, .inl rfl, e1, e2, g2, by simpa using g3⟩)
    (fun m x σ h hx ⟨s', rws, SS, st, y6, y7, y8, e1, e2, g1, g2, g3⟩ => by
      subst e1; subst e2
      have hm := (List.getElem?_eq_some_iff.mp hx).1
      simp at hm
      have hsl := g2.len
      refine ⟨[some (.ref 0), some (bkD bk), some (.int (N : Nat)), some (stD st), some (.ref 1), some (.ref 2), some x, y7, y8], by simp [PyD.put], ?_⟩
      have hS := g2.ok st (List.mem_of_getElem? g1)
      obtain ⟨t, r, rfl⟩ : ∃ t r, st = t :: r := by
        cases st with
        | nil => exact absurd hS (by simp [Sok])
        | cons t r => exact ⟨t, r, rfl⟩
      obtain ⟨d, ht⟩ := hS.top
      have hnum := hS.num hb
      have hfew := hb.few
      have e34 := srows_run (fuel := fuel) (k := k) (by omega) hb hS (by omega) ht
      have q2 := rowsA_len ht.dok (rows_run (fuel := fuel) (k := 13) (by omega) ht.dok ht.ok).2
      have c34 := fun h => callV (h := h) (by simp) e34 (by rw [closed]; exact rsEs_cl _)
      have heq := eq_nil_l (rsEs_cl ((rowsA d t.pl).map (rbS bk t r))) (rsE_dep _) [.lst s'.ds, .lst (rws.map Rw.e), .lst (SS.map stD)]
      by_cases h0 : rowsA d t.pl = []
      · rw [h0] at heq c34
        simp only [List.map_nil] at heq c34
        exact ⟨.rt (.tup [.ref 1, .ref 2]), [some (.ref 0), some (bkD bk), some (.int (N : Nat)), some (stD (t :: r)), some (.ref 1), some (.ref 2), some x, some (.lst []), y8], [.lst s'.ds, .lst (rws.map Rw.e), .lst (SS.map stD)], by simp [ruB, c34, heq], s', rws, SS, t :: r, _, _, _, .inr rfl, rfl, rfl, g2, by omega⟩
      · have hpos : 0 < (rowsA d t.pl).length := List.length_pos_iff.mpr h0
        have hbe : ((((rowsA d t.pl).map (rbS bk t r)).map rsE).length == 0) = false := by simp [h0]
        rw [hbe] at heq
        obtain ⟨z, s2, hz, e13⟩ := pick_ex (fuel := fuel) (k := k) (by omega) s' (((rowsA d t.pl).map (rbS bk t r)).map rsE) (by simpa using hpos) (by simp; omega) (rsEs_cl _)
        obtain ⟨y, hy, rfl⟩ := List.mem_map.mp hz
        obtain ⟨w, hw, rfl⟩ := List.mem_map.mp hy
        have c13 := fun R => c_bx e13 (by simp only [closeds, closed, Bool.and_true]; exact rsEs_cl _) (by simp) R
        generalize ((rowsA d t.pl).map (rbS bk t r)).map rsE = RR at c13 c34 heq
        have a1 : kApp2 (.ref 1) (w.1.e, [.lst s2.ds, .lst (rws.map Rw.e), .lst (SS.map stD)]) = some (.non, [.lst s2.ds, .lst (rws.map Rw.e ++ [w.1.e]), .lst (SS.map stD)]) := app_r1 (by simp [lim]; omega)
        have a2 : ∀ A : List D, kApp2 (.ref 2) (stD (behS bk t r w.1 w.2), [.lst s2.ds, .lst A, .lst (SS.map stD)]) = some (.non, [.lst s2.ds, .lst A, .lst (SS.map stD ++ [stD (behS bk t r w.1 w.2)])]) := fun A => app_r2 (by simp [lim]; omega)
        refine ⟨.nx, [some (.ref 0), some (bkD bk), some (.int (N : Nat)), some (stD (behS bk t r w.1 w.2)), some (.ref 1), some (.ref 2), some x, some (.lst RR), some w.1.e], [.lst s2.ds, .lst ((rws ++ [w.1]).map Rw.e), .lst ((SS ++ [behS bk t r w.1 w.2]).map stD)], ?_, s2, rws ++ [w.1], SS ++ [behS bk t r w.1 w.2], behS bk t r w.1 w.2, _, _, _, rfl, rfl, ?_, g2.more hb g1 ht hw, by simp; omega⟩
        · simp only [rsE, rbS] at c13
          simp [ruB, c34, heq, c13, PyD.put, PyD.puts, a1, a2]
        · rw [List.getElem?_append_right (by simp; omega)]
          simp [hsl])
    [some (.ref 0), some (bkD bk), some (.int (N : Nat)), some (stD (firstS bk)), some (.ref 1), some (.ref 2), none, none, none] [.lst s.ds, .lst (([] : List Rw).map Rw.e), .lst ([firstS bk].map stD)] ⟨s, [], [firstS bk], firstS bk, none, none, none, rfl, rfl, rfl, Run.one hb, by simp⟩
  refine ⟨rws, SS, s', ?_, g1, g2⟩
  rw [tab_step (d := d__law_run) rfl]
  show (exs (tabF L fuel k) fuel b__law_run [some (.ref 0), some (bkD bk), some (.int (N : Nat)), none, none, none, none, none, none] [.lst s.ds]).bind (kRun false 1) = _
  rw [b_run_eq]
  simp [cs, hrng, kFor_ap]
  simp at hw
  rw [hw]
  rcases hf with rfl | rfl
  · simp
    exact fin_run rfl (by simp) (by simp)
  · simp
    exact fin_run rfl (by simp) (by simp)
end PyD.K16

namespace PyD.K16
open PyD
variable {fuel : Nat}
/-- a comprehension over pictures -/
theorem compL_on {α : Type} {σ : Sl} {tg : Tg} {len : Nat} {c : Sl → AH → Option (Bool × AH)} {e : Sl → AH → Option (D × AH)} {h : AH} (E : α → D) (p : α → Bool) (f : α → D) : ∀ (L : List α) (i : Nat),
    (∀ x ∈ L, ∃ σ1, put tg (E x) σ = some σ1 ∧ c σ1 h = some (p x, h) ∧ (p x = true → e σ1 h = some (f x, h))) → compL σ tg none len c e (L.map E) i h = some ((L.filter p).map f, h)
  | [], i, _ => by simp
  | x :: L, i, q => by
    obtain ⟨σ1, e1, e2, e3⟩ := q x (by simp)
    have ih := compL_on (len := len) E p f L (i + 1) fun y hy => q y (by simp [hy])
    cases hp : p x with
    | true => simp [e1, e2, hp, e3 hp, ih]
    | false => simp [e1, e2, hp, ih]
/-! ### deals are cut and put together -/
theorem Dl.to (d : Dl) (n : Nat) (hn : n ≤ 9) (H : AH) : kSlc3 d.e none (some (n : Int), H) = some (.tup ([.str d.name, .tup (d.roles.map .str), .int d.days, .tup (d.cts.map Ct.e), .tup (d.sls.map Se.e), .tup (d.dds.map Dd.e), .tup (d.cls.map Cl.e), d.res.e, .tup (d.prs.map Pr.e)].take n), H) := by
  have := cut_to (xs := [.str d.name, .tup (d.roles.map .str), .int d.days, .tup (d.cts.map Ct.e), .tup (d.sls.map Se.e), .tup (d.dds.map Dd.e), .tup (d.cls.map Cl.e), d.res.e, .tup (d.prs.map Pr.e)]) (n := n) (by simpa using hn)
  simp only [Dl.e, kSlc3_ap, this]
theorem Dl.from7 (d : Dl) (H : AH) : kSlc3 d.e (some 7) (none, H) = some (.tup [d.res.e, .tup (d.prs.map Pr.e)], H) := by
  have : cut [.str d.name, .tup (d.roles.map .str), .int d.days, .tup (d.cts.map Ct.e), .tup (d.sls.map Se.e), .tup (d.dds.map Dd.e), .tup (d.cls.map Cl.e), d.res.e, .tup (d.prs.map Pr.e)] (some 7) none = [d.res.e, .tup (d.prs.map Pr.e)] := cut_from (n := 7) (by simp)
  simp only [Dl.e, kSlc3_ap, this]
theorem Dl.mid18 (d : Dl) (H : AH) : kSlc3 d.e (some 1) (some 8, H) = some (.tup [.tup (d.roles.map .str), .int d.days, .tup (d.cts.map Ct.e), .tup (d.sls.map Se.e), .tup (d.dds.map Dd.e), .tup (d.cls.map Cl.e), d.res.e], H) := by
  simp only [Dl.e, kSlc3_ap]
  rfl
/-- calls are put in -/
def Dl.withCl (d : Dl) (l : List Cl) : Dl := { d with cls := l }
theorem Dl.withCl_ok {d : Dl} (hd : d.ok) (l : List Cl) (hl : ∀ c ∈ l, c.ok d.cts.length d.sls.length d.roles.length) (hn : l.length ≤ 100) : (d.withCl l).ok :=
  ⟨hd.dd, hd.pr, hd.nd, hd.nr, hd.nc, hd.ns, hd.np, hd.tp, hd.nc1, hd.nr1, hd.rs, hd.dy, hd.dy2, hl, hn⟩
def Dl.more (d : Dl) (l : List Dd) : Dl := { d with dds := d.dds ++ l }
theorem Dl.more_ok {d : Dl} (hd : d.ok) (l : List Dd) (hl : ∀ x ∈ l, x.ok d.cts.length d.sls.length) (hn : d.dds.length + l.length ≤ 100) : (d.more l).ok :=
  ⟨(fun x hx => by
    rcases List.mem_append.mp hx with hx | hx
    · exact hd.dd x hx
    · exact hl x hx), hd.pr, by show (d.dds ++ l).length ≤ 100; rw [List.length_append]; exact hn, hd.nr, hd.nc, hd.ns, hd.np, hd.tp, hd.nc1, hd.nr1, hd.rs, hd.dy, hd.dy2, hd.cl, hd.nl⟩
/-- a name of its own, no promises -/
def Dl.named (d : Dl) (n : String) : Dl := { d with name := n, prs := [] }
theorem Dl.named_ok {d : Dl} (hd : d.ok) (n : String) : (d.named n).ok :=
  ⟨hd.dd, (fun x hx => by cases hx), hd.nd, hd.nr, hd.nc, hd.ns, Nat.zero_le _, hd.tp, hd.nc1, hd.nr1, hd.rs, hd.dy, hd.dy2, hd.cl, hd.nl⟩
theorem Wn.small.fine0 {nc ns : Nat} {t : Wn} (h : t.small nc ns 0) : t.fine nc ns := ⟨h.1, by have := h.2.1; omega, by have := h.2.2; omega⟩
/-! ### a deal that calls -/
def cE6 : Ex := (.ite (.cmp .lt (.var 5) (.int 4)) (.call 48 (.cons (.var 0) (.cons (.var 1) .nil))) (.call 47 .nil))
def cE78 : Ex := (.tup (.cons (.blt .len (.cons (.idx (.var 6) (.int 1)) .nil)) (.cons (.call 30 (.cons (.var 0) (.cons (.blt .len (.cons (.idx (.var 6) (.int 3)) .nil)) .nil))) .nil)))
def cE9 : Ex := (.blt .tuple (.cons (.comp (.call 30 (.cons (.var 0) (.cons (.var 7) .nil))) (.v 13) (.rng1 (.var 3)) .no [13]) .nil))
def cEw : Ex := (.ite (.cmp .lt (.var 5) (.int 4)) (.call 44 (.cons (.var 0) (.cons (.var 6) (.cons (.int 0) .nil)))) (.tup (.cons (.str "yes") .nil)))
def cE10 : Ex := (.tup (.cons (.var 4) (.cons (.call 30 (.cons (.var 0) (.cons (.var 7) .nil))) (.cons (.var 2) (.cons (.var 9) (.cons cEw (.cons (.var 8) (.cons (.int 1) .nil))))))))
def cE11 : Ex := (.comp (.tup (.cons (.tup (.cons (.var 8) (.cons (.tup (.cons (.str "number") (.cons (.var 14) .nil))) .nil))) .nil)) (.v 14) (.rng1 (.bin .add (.idx (.idx (.idx (.var 6) (.int 3)) (.var 8)) (.int 1)) (.int 1))) .no [14])
def cE12 : Ex := (.bin .add (.idx (.var 6) (.int 5)) (.blt .tuple (.cons (.comp (.tup (.cons (.str "brought") (.cons (.idx (.var 10) (.int 1)) (.cons (.tup (.cons (.str "plain") .nil)) (.cons (.idx (.var 10) (.int 4)) (.cons (.var 15) (.cons (.int 1) .nil))))))) (.v 15) (.seq (.var 11)) .no [15]) .nil)))
def cEc : Ex := (.bop false (.cons (.cmp .eq (.var 5) (.int 4)) (.cons (.call 42 (.cons (.bin .add (.bin .add (.slc (.var 6) .no (.so (.int 5))) (.tup (.cons (.var 12) (.cons (.tup .nil) .nil)))) (.slc (.var 6) (.so (.int 7)) .no)) (.cons (.bin .mul (.int 10) (.var 1)) .nil))) .nil)))
def cEr : Ex := (.bin .add (.bin .add (.slc (.var 6) .no (.so (.int 6))) (.tup (.cons (.tup (.cons (.var 10) .nil)) .nil))) (.slc (.var 6) (.so (.int 7)) .no))
def clB : Ss := (.cons (.set 6 cE6) (.cons (.asg (.t (.cons (.v 7) (.cons (.v 8) .nil))) cE78) (.cons (.set 9 cE9) (.cons (.set 10 cE10) (.cons (.set 11 cE11) (.cons (.set 12 cE12) (.cons (.ite cEc (.cons (.ret cEr) .nil) .nil) .nil)))))))
theorem b_caller_eq : b__law_caller = .cons (.for_ (.v 5) (.rng1 (.int 5)) clB) (.cons (.ret .non) .nil) := rfl
theorem e9_ok {k : Nat} (hk : 1 ≤ k) (R : Nat) (hR : 0 < R) (hR2 : R ≤ 100) (many : Nat) (hm : many ≤ 100) (s : Bx) (x1 x2 x4 x5 x6 x8 x9 x10 x11 x12 x14 x15 : Option D) :
    ∃ (hs : List Nat) (s' : Bx), ev (tabF L fuel k) cE9 [some (.ref 0), x1, x2, some (.int many), x4, x5, x6, some (.int R), x8, x9, x10, x11, x12, none, x14, x15] [.lst s.ds] = some (.tup (hs.map fun i : Nat => .int i), [.lst s'.ds]) ∧ hs.length = many ∧ ∀ r ∈ hs, r < R := by
  have tr := fun s R' => c_tk (fuel := fuel) (k := k) (by omega) (R : Int) (by omega) (by omega) s R'
  have hrng : rng 0 (many : Nat) = some ((List.range many).map fun i => .int (i : Nat)) := rng_n (by omega)
  obtain ⟨ds, h', ec, ⟨s', rfl⟩, hl, hQ⟩ := compL_ok (σ := [some (.ref 0), x1, x2, some (.int many), x4, x5, x6, some (.int R), x8, x9, x10, x11, x12, none, x14, x15]) (tg := .v 13) (len := many) (c := tstO (tabF L fuel k) .no) (e := ev (tabF L fuel k) (.call 30 (.cons (.var 0) (.cons (.var 7) .nil))))
    (oneS s) (fun y => ∃ i : Nat, y = .int (i : Nat) ∧ i < R) ((List.range many).map fun i => D.int (i : Nat)) 0 [.lst s.ds] (fun y hy h ⟨s5, e6⟩ => by
      subst e6
      obtain ⟨v, s6, e7, h7⟩ := tk_nat s5 R (by omega)
      exact ⟨_, rfl, rfl, .int (v : Nat), [.lst s6.ds], by simp [tr, e7], ⟨_, rfl⟩, v, rfl, by omega⟩) ⟨s, rfl⟩
  obtain ⟨hs, rfl, hp⟩ := list_of (fun i : Nat => D.int i) (fun i => i < R) hQ
  have hlim : many ≤ lim := by simp [lim]; omega
  refine ⟨hs, s', ?_, by simpa using hl, hp⟩
  simp [cE9, hrng, kComp_ap, hlim]
  rw [ec]
  simp
def brD (r ctr : Nat) (w : Wn) (i : Nat) : Dd := ⟨"brought", r, .plain, w, [(ctr, .num i)], 1⟩
theorem e11_ok {C : Nat → Fun} {d : Dl} (ctr : Nat) (t : Ct) (ht : d.cts[ctr]? = some t) (h0 : 0 ≤ t.top) (h9 : t.top ≤ 9) (x0 x1 x2 x3 x4 x5 x7 x9 x10 x11 x12 x13 x15 : Option D) (h : AH) :
    ∃ u : Nat, u ≤ 10 ∧ ev C cE11 [x0, x1, x2, x3, x4, x5, some d.e, x7, some (.int ctr), x9, x10, x11, x12, x13, none, x15] h = some (.lst ((List.range u).map fun i : Nat => .tup [stE (ctr, .num i)]), h) := by
  have j3 : ∀ H, index d.e (.int 3) H = some (.tup (d.cts.map Ct.e)) := fun H => by simp [Dl.e]
  have j9 : ∀ H, index (.tup (d.cts.map Ct.e)) (.int (ctr : Nat)) H = some t.e := fun H => index_at rfl (by simp [ht])
  have j10 : ∀ H, index t.e (.int 1) H = some (.int t.top) := fun H => by simp [Ct.e]
  obtain ⟨T, hT, hr⟩ : ∃ T : Int, binop .add (.int t.top) (.int 1) = some (.int T) ∧ rng 0 T = some ((List.range (t.top.toNat + 1)).map fun i => .int (i : Nat)) := by
    refine ⟨((t.top.toNat + 1 : Nat) : Int), ?_, rng_n (by omega)⟩
    rw [add_i]; congr 2; omega
  have cc := compL_on (σ := [x0, x1, x2, x3, x4, x5, some d.e, x7, some (.int ctr), x9, x10, x11, x12, x13, none, x15]) (tg := .v 14) (len := t.top.toNat + 1) (c := tstO C .no) (e := ev C (.tup (.cons (.tup (.cons (.var 8) (.cons (.tup (.cons (.str "number") (.cons (.var 14) .nil))) .nil))) .nil))) (h := h)
    (fun i : Nat => D.int i) (fun _ => true) (fun i : Nat => .tup [stE (ctr, .num i)]) (List.range (t.top.toNat + 1)) 0 (fun x hx => ⟨_, rfl, rfl, fun _ => by simp [stE, Sm.e]⟩)
  rw [List.filter_eq_self.mpr (fun _ _ => rfl)] at cc
  have hlim : t.top.toNat + 1 ≤ lim := by simp [lim]; omega
  refine ⟨t.top.toNat + 1, by omega, ?_⟩
  simp only [cE11, ev_comp, evI_rng1, ev_bin, ev_idx, ev_var, ev_int, List.getElem?_cons_zero, List.getElem?_cons_succ, kvar_ap, Option.bind_some, kIdx_ap, kIdx2_ap, j3, j9, j10, kOut_eq, kBin_ap, kBin2_ap, hT, kI1_ap, hr, kSq2_ap]
  rw [kComp_ap _ _ _ _ _ _ _ _ _ (by simpa using hlim)]
  simp only [wipe_cons, wipe_nil, List.set_cons_succ, List.set_cons_zero, List.length_map, List.length_range]
  rw [cc]
  rfl
end PyD.K16

namespace PyD.K16
open PyD
variable {fuel : Nat}
theorem e12_ok {C : Nat → Fun} {d : Dl} (hnd : d.dds.length ≤ 50) (c : Cl) (ctr u : Nat) (hu : u ≤ 10) (x0 x1 x2 x3 x4 x5 x7 x8 x9 x12 x13 x14 : Option D) (h : AH) :
    ev C cE12 [x0, x1, x2, x3, x4, x5, some d.e, x7, x8, x9, some c.e, some (.lst ((List.range u).map fun i : Nat => .tup [stE (ctr, .num i)])), x12, x13, x14, none] h = some (.tup ((d.dds ++ (List.range u).map (brD c.role ctr c.when)).map Dd.e), h) := by
  have j5 : ∀ H, index d.e (.int 5) H = some (.tup (d.dds.map Dd.e)) := fun H => by simp [Dl.e]
  have i1 : ∀ H, index c.e (.int 1) H = some (.int c.role) := fun H => by simp [Cl.e]
  have i4 : ∀ H, index c.e (.int 4) H = some c.when.e := fun H => by simp [Cl.e]
  have cc := compL_on (σ := [x0, x1, x2, x3, x4, x5, some d.e, x7, x8, x9, some c.e, some (.lst ((List.range u).map fun i : Nat => .tup [stE (ctr, .num i)])), x12, x13, x14, none]) (tg := .v 15) (len := u) (c := tstO C .no) (e := ev C (.tup (.cons (.str "brought") (.cons (.idx (.var 10) (.int 1)) (.cons (.tup (.cons (.str "plain") .nil)) (.cons (.idx (.var 10) (.int 4)) (.cons (.var 15) (.cons (.int 1) .nil)))))))) (h := h)
    (fun i : Nat => D.tup [stE (ctr, .num i)]) (fun _ => true) (fun i : Nat => (brD c.role ctr c.when i).e) (List.range u) 0 (fun x hx => ⟨_, rfl, rfl, fun _ => by simp [i1, i4, brD, Dd.e, Kd.e]⟩)
  rw [List.filter_eq_self.mpr (fun _ _ => rfl)] at cc
  have hlim : u ≤ lim := by simp [lim]; omega
  have ha : binop .add (.tup (d.dds.map Dd.e)) (.tup ((List.range u).map fun i : Nat => (brD c.role ctr c.when i).e)) = some (.tup ((d.dds ++ (List.range u).map (brD c.role ctr c.when)).map Dd.e)) := by
    rw [add_t (by simp [lim]; omega), List.map_append, List.map_map]; rfl
  generalize (d.dds ++ (List.range u).map (brD c.role ctr c.when)).map Dd.e = RES at ha ⊢
  generalize (List.range u).map (fun i : Nat => (brD c.role ctr c.when i).e) = BR at cc ha
  simp [cE12, j5, kComp_ap, hlim]
  rw [cc]
  simp [ha]
theorem e10_ok {k : Nat} (hk : 1 ≤ k) (R : Nat) (hR : 0 < R) (hR2 : R ≤ 100) (name : String) (num ctr : Nat) (hs : List Nat) (s : Bx) (x1 x3 x5 x6 x10 x11 x12 x13 x14 x15 : Option D)
    (hw : ∀ s : Bx, ∃ (w : Wn) (s' : Bx), ev (tabF L fuel k) cEw [some (.ref 0), x1, some (.int num), x3, some (.str name), x5, x6, some (.int R), some (.int ctr), some (.tup (hs.map fun i : Nat => .int i)), x10, x11, x12, x13, x14, x15] [.lst s.ds] = some (w.e, [.lst s'.ds]) ∧ w.fine nc ns) :
    ∃ (c : Cl) (s' : Bx), ev (tabF L fuel k) cE10 [some (.ref 0), x1, some (.int num), x3, some (.str name), x5, x6, some (.int R), some (.int ctr), some (.tup (hs.map fun i : Nat => .int i)), x10, x11, x12, x13, x14, x15] [.lst s.ds] = some (c.e, [.lst s'.ds]) ∧ c.role < R ∧ c.inner = num ∧ c.handed = hs ∧ c.ctr = ctr ∧ c.when.fine nc ns := by
  have tr := fun s R' => c_tk (fuel := fuel) (k := k) (by omega) (R : Int) (by omega) (by omega) s R'
  obtain ⟨v, s1, e1, h1⟩ := tk_nat s R (by omega)
  obtain ⟨w, s2, e2, h2⟩ := hw s1
  refine ⟨⟨name, v, num, hs, w, ctr, 1⟩, s2, ?_, by show v < R; omega, rfl, rfl, rfl, h2⟩
  simp [cE10, tr, e1]
  rw [e2]
  simp [Cl.e]
theorem ret_ok {C : Nat → Fun} {d : Dl} (hc : d.cls = []) (c : Cl) (x0 x1 x2 x3 x4 x5 x7 x8 x9 x11 x12 x13 x14 x15 : Option D) (h : AH) :
    ev C cEr [x0, x1, x2, x3, x4, x5, some d.e, x7, x8, x9, some c.e, x11, x12, x13, x14, x15] h = some ((d.withCl [c]).e, h) := by
  have h6 := fun H => d.to 6 (by omega) H
  have h7 := d.from7
  simp only [List.take_succ_cons, List.take_zero] at h6
  have a1 : ∀ a b c e f g x : D, binop .add (.tup [a, b, c, e, f, g]) (.tup [x]) = some (.tup [a, b, c, e, f, g, x]) := fun a b c e f g x => add_t (by simp [lim])
  have a2 : ∀ a b c e f g x y z : D, binop .add (.tup [a, b, c, e, f, g, x]) (.tup [y, z]) = some (.tup [a, b, c, e, f, g, x, y, z]) := fun a b c e f g x y z => add_t (by simp [lim])
  have hr : (d.withCl [c]).e = .tup [.str d.name, .tup (d.roles.map .str), .int d.days, .tup (d.cts.map Ct.e), .tup (d.sls.map Se.e), .tup (d.dds.map Dd.e), .tup [c.e], d.res.e, .tup (d.prs.map Pr.e)] := rfl
  rw [hr]
  have h6 : ∀ H, kSlc3 d.e none (some 6, H) = some (.tup [.str d.name, .tup (d.roles.map .str), .int d.days, .tup (d.cts.map Ct.e), .tup (d.sls.map Se.e), .tup (d.dds.map Dd.e)], H) := h6
  simp [cEr, h6, h7, a1, a2]
/-- is it small, or the last turn -/
theorem cond_ok {k : Nat} (hk : 14 ≤ k) (hf : 700 ≤ fuel) {d : Dl} (hd : d.ok) (hc : d.cls = []) (M : Nat) (hM : 10 * M ≤ 500) (m : Nat) (l : List Dd) (hl : ∀ x ∈ l, x.ok d.cts.length d.sls.length) (hn : d.dds.length + l.length ≤ 100) (x0 x2 x3 x4 x7 x8 x9 x10 x11 x13 x14 x15 : Option D) (h : AH) :
    ∃ b : Bool, ev (tabF L fuel k) cEc [x0, some (.int M), x2, x3, x4, some (.int m), some d.e, x7, x8, x9, x10, x11, some (.tup ((d.dds ++ l).map Dd.e)), x13, x14, x15] h = some (.bl b, h) ∧ (m = 4 → b = true) := by
  by_cases h4 : m = 4
  · subst h4
    exact ⟨true, by simp [cEc], fun _ => rfl⟩
  · obtain ⟨b, cs⟩ := c_small (fuel := fuel) hk hf (10 * M) hM (d.more_ok hd l hl hn) h
    have hb : ((m : Int) == 4) = false := by rw [beq_eq_false_iff_ne]; omega
    have h5 : ∀ H, kSlc3 d.e none (some 5, H) = some (.tup [.str d.name, .tup (d.roles.map .str), .int d.days, .tup (d.cts.map Ct.e), .tup (d.sls.map Se.e)], H) := fun H => d.to 5 (by omega) H
    have h7 := d.from7
    have a1 : ∀ a b c e f x y : D, binop .add (.tup [a, b, c, e, f]) (.tup [x, y]) = some (.tup [a, b, c, e, f, x, y]) := fun a b c e f x y => add_t (by simp [lim])
    have a2 : ∀ a b c e f g x y z : D, binop .add (.tup [a, b, c, e, f, g, x]) (.tup [y, z]) = some (.tup [a, b, c, e, f, g, x, y, z]) := fun a b c e f g x y z => add_t (by simp [lim])
    have hr : (d.more l).e = .tup [.str d.name, .tup (d.roles.map .str), .int d.days, .tup (d.cts.map Ct.e), .tup (d.sls.map Se.e), .tup ((d.dds ++ l).map Dd.e), .tup [], d.res.e, .tup (d.prs.map Pr.e)] := by
      simp only [Dl.e, Dl.more, hc]; rfl
    rw [hr] at cs
    obtain ⟨X, hX, hX2⟩ : ∃ X : Int, binop .mul (.int 10) (.int (M : Nat)) = some (.int X) ∧ X = ((10 * M : Nat) : Int) := ⟨_, mul_i (.inl ⟨by omega, by omega⟩), by omega⟩
    rw [← hX2] at cs
    generalize (d.dds ++ l).map Dd.e = DDS at cs
    exact ⟨b, by simp [cEc, hb, h5, h7, a1, a2, hX, cs], fun h => absurd h h4⟩
end PyD.K16

namespace PyD.K16
open PyD
variable {fuel : Nat}
/-- what is known of a drawn deal -/
structure Dn (d : Dl) : Prop where
  ok : d.ok
  nd : d.dds.length ≤ 11
  nr : d.roles.length ≤ 9
  np : d.prs.length ≤ 10
theorem outer_ok {k : Nat} (hk : 16 ≤ k) (hf : 700 ≤ fuel) (M : Nat) (hM : M ≤ 500) (m : Nat) (s : Bx) : ∃ (d : Dl) (s' : Bx), (∀ (x2 x3 x4 x6 x7 x8 x9 x10 x11 x12 x13 x14 x15 : Option D), ev (tabF L fuel k) cE6 [some (.ref 0), some (.int M), x2, x3, x4, some (.int m), x6, x7, x8, x9, x10, x11, x12, x13, x14, x15] [.lst s.ds] = some (d.e, [.lst s'.ds])) ∧ Dn d ∧ d.cls = [] ∧ (∀ c ∈ d.cts, 0 ≤ c.top ∧ c.top ≤ 9) := by
  by_cases h4 : (m : Int) < 4
  · obtain ⟨d, s1, e, hd, h1, h2, h3, h4', h5⟩ := deal_run (fuel := fuel) hk hf M hM s
    have c := c_bx e rfl (by simp) []
    exact ⟨d, s1, fun x2 x3 x4 x6 x7 x8 x9 x10 x11 x12 x13 x14 x15 => by simp [cE6, h4, c], ⟨hd, h3, h4', h1⟩, h2, h5⟩
  · have cs := fun h => callV (h := h) rfl (swap_run (fuel := fuel) (k := k) (by omega)) (by simp)
    exact ⟨swapD, s, fun x2 x3 x4 x6 x7 x8 x9 x10 x11 x12 x13 x14 x15 => by simp [cE6, h4, cs], ⟨swap_ok, by decide, by decide, by decide⟩, rfl, by decide⟩
theorem cl_step {k : Nat} (hk : 16 ≤ k) (hf : 700 ≤ fuel) (M : Nat) (hM : 10 * M ≤ 500) (num many : Nat) (hmany : many ≤ 100) (name : String) (m : Nat) (hm : m < 5) (s : Bx) (x6 x7 x8 x9 x10 x11 x12 : Option D) :
    ∃ (s' : Bx) (y6 y7 y8 y9 y10 y11 y12 : Option D) (f : Fl), exs (tabF L fuel k) fuel clB [some (.ref 0), some (.int M), some (.int num), some (.int many), some (.str name), some (.int m), x6, x7, x8, x9, x10, x11, x12, none, none, none] [.lst s.ds] = some (f, [some (.ref 0), some (.int M), some (.int num), some (.int many), some (.str name), some (.int m), y6, y7, y8, y9, y10, y11, y12, none, none, none], [.lst s'.ds]) ∧
      ((f = .nx ∧ m < 4) ∨ ∃ (d : Dl) (c : Cl), f = .rt (d.withCl [c]).e ∧ Dn (d.withCl [c]) ∧ c.inner = num ∧ c.handed.length = many) := by
  obtain ⟨d, s1, e6, hdn, hdc, hdt⟩ := outer_ok (fuel := fuel) hk hf M (by omega) m s
  have hd := hdn.ok
  have n1 := hd.nr1
  have n2 := hdn.nr
  have n3 := hd.nc1
  have n4 := hd.nc
  have n5 := hdn.nd
  have j1 : ∀ H, index d.e (.int 1) H = some (.tup (d.roles.map .str)) := fun H => by simp [Dl.e]
  have j3 : ∀ H, index d.e (.int 3) H = some (.tup (d.cts.map Ct.e)) := fun H => by simp [Dl.e]
  have tc := fun s R' => c_tk (fuel := fuel) (k := k) (by omega) (d.cts.length : Int) (by omega) (by omega) s R'
  obtain ⟨ctr, s2, e8, hctr⟩ := tk_nat s1 (d.cts.length : Int) (by omega)
  obtain ⟨hs, s3, e9, hhl, hhr⟩ := e9_ok (fuel := fuel) (k := k) (by omega) d.roles.length (by omega) (by omega) many hmany s2 (some (.int M)) (some (.int num)) (some (.str name)) (some (.int m)) (some d.e) (some (.int ctr)) x9 x10 x11 x12 none none
  obtain ⟨t, ht⟩ : ∃ t, d.cts[ctr]? = some t := ⟨_, List.getElem?_eq_getElem (by omega)⟩
  have htt := hdt t (List.mem_of_getElem? ht)
  have hw : ∀ s : Bx, ∃ (w : Wn) (s' : Bx), ev (tabF L fuel k) cEw [some (.ref 0), some (.int M), some (.int num), some (.int many), some (.str name), some (.int m), some d.e, some (.int d.roles.length), some (.int ctr), some (.tup (hs.map fun i : Nat => .int i)), x10, x11, x12, none, none, none] [.lst s.ds] = some (w.e, [.lst s'.ds]) ∧ w.fine d.cts.length d.sls.length := fun s => by
    by_cases h4 : (m : Int) < 4
    · obtain ⟨w, s', e, hw⟩ := when_run (fuel := fuel) (Dl.five hd) 0 (k := k) (by omega) s
      have c := c_bx e (by simp) (by simp) []
      have c : callC (tabF L fuel k 44) [.ref 0, d.e, .int 0] [.lst s.ds] = some (w.e, [.lst s'.ds]) := c
      exact ⟨w, s', by simp [cEw, h4, c], hw.fine0⟩
    · exact ⟨.yes, s, by simp [cEw, h4, Wn.e], ⟨trivial, by decide, by decide⟩⟩
  obtain ⟨c, s4, e10, hcr, hci, hch, hcc, hcw⟩ := e10_ok (fuel := fuel) (k := k) (by omega) d.roles.length (by omega) (by omega) name num ctr hs s3 (some (.int M)) (some (.int many)) (some (.int m)) (some d.e) x10 x11 x12 none none none hw
  obtain ⟨u, hu, e11⟩ := e11_ok (C := tabF L fuel k) ctr t ht htt.1 htt.2 (some (.ref 0)) (some (.int M)) (some (.int num)) (some (.int many)) (some (.str name)) (some (.int m)) (some (.int d.roles.length)) (some (.tup (hs.map fun i : Nat => .int i))) (some c.e) x11 x12 none none [.lst s4.ds]
  have e12 := e12_ok (C := tabF L fuel k) (d := d) (by omega) c ctr u hu (some (.ref 0)) (some (.int M)) (some (.int num)) (some (.int many)) (some (.str name)) (some (.int m)) (some (.int d.roles.length)) (some (.int ctr)) (some (.tup (hs.map fun i : Nat => .int i))) x12 none none [.lst s4.ds]
  have hco : c.ok d.cts.length d.sls.length d.roles.length := ⟨hcw, by rw [hcc]; omega, by rw [hch]; exact hhr, hcr⟩
  obtain ⟨b, ec, hb⟩ := cond_ok (fuel := fuel) (k := k) (by omega) hf hd hdc M hM m ((List.range u).map (brD c.role ctr c.when)) (fun x hx => by
    obtain ⟨i, _, rfl⟩ := List.mem_map.mp hx
    exact ⟨hcw, fun s hs => by cases List.mem_singleton.mp hs; exact ⟨by omega, numF _ _ _⟩, trivial, rfl⟩) (by simp; omega) (some (.ref 0)) (some (.int num)) (some (.int many)) (some (.str name)) (some (.int d.roles.length)) (some (.int ctr)) (some (.tup (hs.map fun i : Nat => .int i))) (some c.e) (some (.lst ((List.range u).map fun i : Nat => .tup [stE (ctr, .num i)]))) none none none [.lst s4.ds]
  have er := ret_ok (C := tabF L fuel k) hdc c (some (.ref 0)) (some (.int M)) (some (.int num)) (some (.int many)) (some (.str name)) (some (.int m)) (some (.int d.roles.length)) (some (.int ctr)) (some (.tup (hs.map fun i : Nat => .int i))) (some (.lst ((List.range u).map fun i : Nat => .tup [stE (ctr, .num i)]))) (some (.tup ((d.dds ++ (List.range u).map (brD c.role ctr c.when)).map Dd.e))) none none none [.lst s4.ds]
  have e78 : ev (tabF L fuel k) cE78 [some (.ref 0), some (.int M), some (.int num), some (.int many), some (.str name), some (.int m), some d.e, x7, x8, x9, x10, x11, x12, none, none, none] [.lst s1.ds] = some (.tup [.int d.roles.length, .int ctr], [.lst s2.ds]) := by
    simp [cE78, j1, j3, tc, e8]
  refine ⟨s4, some d.e, some (.int d.roles.length), some (.int ctr), some (.tup (hs.map fun i : Nat => .int i)), some c.e, some (.lst ((List.range u).map fun i : Nat => .tup [stE (ctr, .num i)])), some (.tup ((d.dds ++ (List.range u).map (brD c.role ctr c.when)).map Dd.e)), if b then .rt (d.withCl [c]).e else .nx, ?_, ?_⟩
  · generalize (List.range u).map (fun i : Nat => D.tup [stE (ctr, .num i)]) = L11 at *
    generalize (d.dds ++ (List.range u).map (brD c.role ctr c.when)).map Dd.e = L12 at *
    generalize hs.map (fun i : Nat => D.int i) = HS at *
    simp only [clB, exs_cons, ex_set, ex_asg, e6, e78, e9, e10, e11, e12, Option.bind_some, kSet_ap, kAsg_ap, put, puts, kAsg2_ap, List.set_cons_succ, List.set_cons_zero, kSeq_nx, ex_ite, tst_eq, ec]
    cases b with
    | false => simp
    | true => simp [er]
  · cases b with
    | false => exact .inl ⟨rfl, by
        rcases Nat.lt_or_ge m 4 with h | h
        · exact h
        · exact absurd (hb (by omega)) (by simp)⟩
    | true => exact .inr ⟨d, c, rfl, ⟨d.withCl_ok hd [c] (fun x hx => by cases List.mem_singleton.mp hx; exact hco) (by simp), n5, n2, hdn.np⟩, hci, by rw [hch, hhl]⟩
theorem caller_run {k : Nat} (hk : 17 ≤ k) (hf : 700 ≤ fuel) (M : Nat) (hM : 10 * M ≤ 500) (num many : Nat) (hmany : many ≤ 100) (name : String) (s : Bx) :
    ∃ (d : Dl) (c : Cl) (s' : Bx), tabF L fuel k 49 [.ref 0, .int M, .int num, .int many, .str name] [.lst s.ds] = some ((d.withCl [c]).e, [.lst s'.ds]) ∧ Dn (d.withCl [c]) ∧ c.inner = num ∧ c.handed.length = many := by
  obtain ⟨k, rfl⟩ : ∃ m, k = m + 1 := ⟨k - 1, by omega⟩
  have hrng : rng 0 5 = some ((List.range 5).map fun i => .int (i : Nat)) := rng_n (n := 5) (by omega)
  obtain ⟨f, σ', h', hw, d, c, s', rfl, rfl, hP⟩ := for_ix (tg := .v 5) (len := 5) (b := exs (tabF L fuel k) fuel clB) ((List.range 5).map fun i => D.int (i : Nat))
    (fun m σ h => m < 5 ∧ ∃ (s' : Bx) (y5 y6 y7 y8 y9 y10 y11 y12 : Option D), σ = [some (.ref 0), some (.int M), some (.int num), some (.int many), some (.str name), y5, y6, y7, y8, y9, y10, y11, y12, none, none, none] ∧ h = [.lst s'.ds])
    (fun f σ h => ∃ (d : Dl) (c : Cl) (s' : Bx), f = .rt (d.withCl [c]).e ∧ h = [.lst s'.ds] ∧ Dn (d.withCl [c]) ∧ c.inner = num ∧ c.handed.length = many)
    (fun σ h ⟨hm, _⟩ => by simp at hm)
    (fun m x σ h hx ⟨hm, s', y5, y6, y7, y8, y9, y10, y11, y12, e1, e2⟩ => by
      subst e1; subst e2
      rw [List.getElem?_map, List.getElem?_range hm] at hx
      simp only [Option.map_some, Option.some.injEq] at hx
      subst hx
      obtain ⟨s2, z6, z7, z8, z9, z10, z11, z12, f, e, hf⟩ := cl_step (fuel := fuel) (k := k) (by omega) hf M hM num many hmany name m hm s' y6 y7 y8 y9 y10 y11 y12
      rcases hf with ⟨rfl, h4⟩ | ⟨d, c, rfl, h1, h2, h3⟩
      · exact ⟨_, rfl, .nx, _, _, e, by omega, s2, _, _, _, _, _, _, _, _, rfl, rfl⟩
      · exact ⟨_, rfl, .rt (d.withCl [c]).e, _, _, e, d, c, s2, rfl, rfl, h1, h2, h3⟩)
    [some (.ref 0), some (.int M), some (.int num), some (.int many), some (.str name), none, none, none, none, none, none, none, none, none, none, none] [.lst s.ds] ⟨by omega, s, none, none, none, none, none, none, none, none, rfl, rfl⟩
  refine ⟨d, c, s', ?_, hP⟩
  rw [tab_step (d := d__law_caller) rfl]
  show (exs (tabF L fuel k) fuel b__law_caller [some (.ref 0), some (.int M), some (.int num), some (.int many), some (.str name), none, none, none, none, none, none, none, none, none, none, none] [.lst s.ds]).bind (kRun false 1) = _
  rw [b_caller_eq]
  simp only [exs_cons, ex_for, evI_rng1, ev_int, Option.bind_some, kI1_ap, hrng, kSq2_ap, kFor_ap, List.length_map, List.length_range]
  rw [hw]
  simp only [Option.bind_some, kSeq_rt, kRun_rt]
  exact fin_o (by simp) rfl
end PyD.K16

namespace PyD.K16
open PyD
variable {fuel : Nat}
theorem named_ex (d : Dl) (n : String) : ∃ c x : D, (∀ H, kSlc3 d.e (some 1) (some 8, H) = some (c, H)) ∧ binop .add (.tup [.str n]) c = some x ∧ binop .add x (.tup [.tup []]) = some (d.named n).e := by
  refine ⟨_, _, d.mid18, add_t (by simp [lim]), ?_⟩
  simp only [List.cons_append, List.nil_append]
  rw [add_t (by simp [lim])]
  rfl
theorem with_run {k : Nat} (hk : 18 ≤ k) (hf : 700 ≤ fuel) (M N : Nat) (hN : binop .fdiv (.int M) (.int 4) = some (.int N)) (hN2 : 10 * N ≤ 500) (s : Bx) :
    ∃ (e d : Dl) (c : Cl) (s' : Bx), tabF L fuel k 50 [.ref 0, .int M] [.lst s.ds] = some (bkD [e, d.withCl [c]], [.lst s'.ds]) ∧ Dn e ∧ e.cls = [] ∧ Dn (d.withCl [c]) ∧ c.inner = 0 ∧ c.handed.length = e.roles.length := by
  obtain ⟨k, rfl⟩ : ∃ m, k = m + 1 := ⟨k - 1, by omega⟩
  obtain ⟨e, s1, e50, he, h1, h2, h3, h4, _⟩ := deal_run (fuel := fuel) (k := k) (by omega) hf N (by omega) s
  have c50 := c_bx e50 rfl (by simp) []
  obtain ⟨x1, x2, n1, n2, n3⟩ := named_ex e "inner"
  obtain ⟨d, c, s2, e51, hd, hc1, hc2⟩ := caller_run (fuel := fuel) (k := k) (by omega) hf N hN2 0 e.roles.length (by omega) "k0" s1
  have c51 := c_bx e51 rfl (by simp) []
  have j1 : ∀ H, index (e.named "inner").e (.int 1) H = some (.tup (e.roles.map .str)) := fun H => by simp [Dl.e, Dl.named]
  refine ⟨e.named "inner", d, c, s2, ?_, ⟨Dl.named_ok he "inner", h3, h4, Nat.zero_le _⟩, h2, hd, hc1, hc2⟩
  rw [tab_step (d := d__law_with_call) rfl]
  have c51 : callC (tabF L fuel k 49) [.ref 0, .int N, .int 0, .int e.roles.length, .str "k0"] [.lst s1.ds] = some ((d.withCl [c]).e, [.lst s2.ds]) := c51
  simp [d__law_with_call, b__law_with_call, hN, c50, n1, n2, n3, j1, c51]
  exact fin_o (d := bkD [e.named "inner", d.withCl [c]]) (by simp) rfl
end PyD.K16

namespace PyD.K16
open PyD
variable {fuel : Nat}
/-! ### the books -/
theorem bok2 {e d : Dl} {c : Cl} (he : Dn e) (hec : e.cls = []) (hd : Dn (d.withCl [c])) (h1 : c.inner = 0) (h2 : c.handed.length = e.roles.length) : Bok [e, d.withCl [c]] := by
  refine ⟨fun x hx => ?_, fun n x hn c' hc' => ?_, by simp, by simp⟩
  · simp only [List.mem_cons, List.mem_nil_iff, or_false] at hx
    rcases hx with rfl | rfl
    · exact he.ok
    · exact hd.ok
  · match n, hn with
    | 0, hn =>
      simp only [List.getElem?_cons_zero, Option.some.injEq] at hn
      subst hn; rw [hec] at hc'; cases hc'
    | 1, hn =>
      simp only [List.getElem?_cons_succ, List.getElem?_cons_zero, Option.some.injEq] at hn
      subst hn
      cases List.mem_singleton.mp hc'
      rw [h1]
      exact ⟨by omega, e, rfl, h2⟩
    | n + 2, hn => simp at hn
theorem rws_key (l : List Rw) : keyOk (.tup (l.map Rw.e)) = true ∧ depD (.tup (l.map Rw.e)) ≤ 2 := by
  have h1 := keyOks_map Rw.e (fun r => (rw_key r).1) l
  have h2 := depDs_map Rw.e 1 (fun r => (rw_key r).2) l
  exact ⟨h1, by simp only [depD]; omega⟩
theorem c_bxE {φ : Fun} {args : List D} {v : D} {s s' : Bx} (e : φ (.ref 0 :: args) [.lst s.ds] = some (v, [.lst s'.ds])) (hc : closeds args = true) (hv : closed v = true) (h : AH) :
    callC φ (.ref h.length :: args) (h ++ [.lst s.ds]) = some (v, h ++ [.lst s'.ds]) := by
  rw [callO (es := s.ds) (by simp) hc rfl e hv rfl, List.set_append_right _ _ (Nat.le_refl _)]
  simp
theorem c_tkE {k : Nat} (hk : 1 ≤ k) (m : Int) (hm : 0 < m) (hm2 : m < 1000000) (s : Bx) (h : AH) : callC (tabF L fuel k 30) [.ref h.length, .int m] (h ++ [.lst s.ds]) = some (.int (tk s m).1, h ++ [.lst (tk s m).2.ds]) := by
  obtain ⟨k, rfl⟩ : ∃ m, k = m + 1 := ⟨k - 1, by omega⟩
  exact c_bxE (take_ok k s m hm hm2) rfl rfl h
/-! ### the law's inner walks -/
end PyD.K16

namespace PyD.K16
open PyD
variable {fuel : Nat}
/-! ### promises, at places and what is known of them -/
/-- a place, with another end -/
def gE (p : Pc) (rest : List D) : D := .tup (.int p.day :: .tup (p.cs.map .int) :: .tup (p.ss.map sE) :: rest)
theorem gE_cl (p : Pc) {rest : List D} (hr : closeds rest = true) : closed (gE p rest) = true := by simp [gE, closeds, hr]
theorem Pc.e_g (p : Pc) : p.e = gE p [.tup (p.dn.map .int), .tup (p.ps.map .bl)] := rfl
theorem g_0 (p : Pc) (rest : List D) (h : AH) : index (gE p rest) (.int 0) h = some (.int p.day) := by simp [gE]
theorem g_1 (p : Pc) (rest : List D) (h : AH) : index (gE p rest) (.int 1) h = some (.tup (p.cs.map .int)) := by simp [gE]
theorem g_2 (p : Pc) (rest : List D) (h : AH) : index (gE p rest) (.int 2) h = some (.tup (p.ss.map sE)) := by simp [gE]
theorem sightG_ok {k : Nat} (hk : 2 ≤ k) {d : Dl} (hd : d.ok) {p : Pc} (hp : p.ok d) {rest : List D} (hr : closeds rest = true) : tabF L fuel k 12 [d.e, gE p rest, .int (-1)] [] = some ((p.view d none).sight, []) := by
  obtain ⟨k, rfl⟩ : ∃ m, k = m + 1 := ⟨k - 1, by omega⟩
  have c : callC (tabF L fuel k 11) [d.e, .tup (p.ss.map sE), .int (-1)] [] = some ((p.view d none).eS, []) := callV (by simp) (seen_ok (by omega) hd hp none) (by simp)
  have j0 := g_0 p rest
  have j1 := g_1 p rest
  have j2 := g_2 p rest
  rw [tab_step (d := d_sight_of) rfl]
  generalize gE p rest = G at *
  simp [d_sight_of, b_sight_of, j0, j1, j2, c]
  exact fin_0 (by simp)
theorem opensG_ok {k : Nat} (hk : 6 ≤ k) (hf : 100 ≤ fuel) {d : Dl} (hd : d.ok) {p : Pc} (hp : p.ok d) {rest : List D} (hr : closeds rest = true) {t : Wn} (ht : t.fine d.cts.length d.sls.length) : tabF L fuel k 25 [d.e, gE p rest, t.e] [] = some (.bl (t.val (p.view d none)), []) := by
  obtain ⟨k, rfl⟩ : ∃ m, k = m + 1 := ⟨k - 1, by omega⟩
  have hg := gE_cl p hr
  have c1 : callC (tabF L fuel k 12) [d.e, gE p rest, .int (-1)] [] = some ((p.view d none).sight, []) := callV (by simp [hg]) (sightG_ok (by omega) hd hp hr) (by simp)
  have c2 := c_holds (k := k) (by omega) hf hp none ht []
  rw [tab_step (d := d_open_holds) rfl]
  generalize gE p rest = G at *
  simp [d_open_holds, b_open_holds, c1, c2]
  exact fin_0 rfl
theorem c_opensG {k : Nat} (hk : 6 ≤ k) (hf : 100 ≤ fuel) {d : Dl} (hd : d.ok) {p : Pc} (hp : p.ok d) {rest : List D} (hr : closeds rest = true) {t : Wn} (ht : t.fine d.cts.length d.sls.length) (h : AH) : callC (tabF L fuel k 25) [d.e, gE p rest, t.e] h = some (.bl (t.val (p.view d none)), h) :=
  callV (by simp [gE_cl p hr]) (opensG_ok hk hf hd hp hr ht) rfl
def PK.day (d : Dl) : PK → Int
  | .never => 0
  | .on n => n
  | .fin => d.days
/-- a promise is broken -/
def brk (d : Dl) (p : Pc) (risen : Bool) (x : Pr) : Bool := match x.kind with
  | .never => x.when.val (p.view d none)
  | k => risen && (p.day == k.day d) && !x.when.val (p.view d none)
theorem keptG_ok {k : Nat} (hk : 7 ≤ k) (hf : 100 ≤ fuel) {d : Dl} (hd : d.ok) {p : Pc} (hp : p.ok d) {rest : List D} (hr : closeds rest = true) {x : Pr} (hx : x.when.fine d.cts.length d.sls.length) (r : Bool) : tabF L fuel k 26 [d.e, x.e, gE p rest, .bl r] [] = some (.bl (!brk d p r x), []) := by
  obtain ⟨k, rfl⟩ : ∃ m, k = m + 1 := ⟨k - 1, by omega⟩
  have c := c_opensG (k := k) (by omega) hf hd hp hr hx []
  obtain ⟨ro, ki, wh⟩ := x
  have hday : index d.e (.int 2) [] = some (.int d.days) := rfl
  have hpd : index (gE p rest) (.int 0) [] = some (.int p.day) := g_0 p rest []
  rw [tab_step (d := d_is_kept) rfl]
  generalize gE p rest = G at *
  cases ki with
  | never =>
    simp [d_is_kept, b_is_kept, Pr.e, PK.e, put, puts, c, brk]
    exact fin_0 rfl
  | on n =>
    simp only [brk, PK.day]
    generalize wh.val (p.view d none) = v at c ⊢
    have hb : p.day = n ∨ (p.day == n) = false := by
      by_cases hq : p.day = n
      · exact .inl hq
      · exact .inr (by simpa using hq)
    cases r <;> rcases hb with hq | hq <;> cases v <;> (simp [d_is_kept, b_is_kept, Pr.e, PK.e, put, puts, c, hpd, hq]; exact fin_0 rfl)
  | fin =>
    simp only [brk, PK.day]
    generalize wh.val (p.view d none) = v at c ⊢
    have hb : p.day = d.days ∨ (p.day == d.days) = false := by
      by_cases hq : p.day = d.days
      · exact .inl hq
      · exact .inr (by simpa using hq)
    cases r <;> rcases hb with hq | hq <;> cases v <;> (simp [d_is_kept, b_is_kept, Pr.e, PK.e, put, puts, c, hpd, hday, hq]; exact fin_0 rfl)
theorem c_keptG {k : Nat} (hk : 7 ≤ k) (hf : 100 ≤ fuel) {d : Dl} (hd : d.ok) {p : Pc} (hp : p.ok d) {rest : List D} (hr : closeds rest = true) {x : Pr} (hx : x.when.fine d.cts.length d.sls.length) (r : Bool) (h : AH) : callC (tabF L fuel k 26) [d.e, x.e, gE p rest, .bl r] h = some (.bl (!brk d p r x), h) :=
  callV (by simp [gE_cl p hr]) (keptG_ok hk hf hd hp hr hx r) rfl
theorem c_kept {k : Nat} (hk : 7 ≤ k) (hf : 100 ≤ fuel) {d : Dl} (hd : d.ok) {p : Pc} (hp : p.ok d) {x : Pr} (hx : x.when.fine d.cts.length d.sls.length) (r : Bool) (h : AH) : callC (tabF L fuel k 26) [d.e, x.e, p.e, .bl r] h = some (.bl (!brk d p r x), h) :=
  c_keptG hk hf hd hp (by simp) hx r h
theorem breaks_ok {k : Nat} (hk : 12 ≤ k) {d : Dl} (hd : d.ok) {p : Pc} (hp : p.ok d) {x : Pr} (hx : x.when.fine d.cts.length d.sls.length) (r : Bool) : tabF L fuel k 51 [d.e, x.e, p.e, .bl r] [] = some (.bl (brk d p r x), []) := by
  obtain ⟨k, rfl⟩ : ∃ m, k = m + 1 := ⟨k - 1, by omega⟩
  have c1 := c_sees0 (fuel := fuel) (k := k) (by omega) hd hp []
  have c2 := c_lholds (fuel := fuel) (k := k) (by omega) hp none hx []
  obtain ⟨ro, ki, wh⟩ := x
  have hday : index d.e (.int 2) [] = some (.int d.days) := rfl
  have hpd : index p.e (.int 0) [] = some (.int p.day) := rfl
  rw [tab_step (d := d__law_breaks) rfl]
  cases ki with
  | never =>
    simp [d__law_breaks, b__law_breaks, Pr.e, PK.e, c1, c2, brk]
    exact fin_0 rfl
  | on n =>
    simp only [brk, PK.day]
    generalize wh.val (p.view d none) = v at c2 ⊢
    have hb : p.day = n ∨ (p.day == n) = false := by
      by_cases hq : p.day = n
      · exact .inl hq
      · exact .inr (by simpa using hq)
    cases r <;> rcases hb with hq | hq <;> cases v <;> (simp [d__law_breaks, b__law_breaks, Pr.e, PK.e, c1, c2, hpd, hq]; exact fin_0 rfl)
  | fin =>
    simp only [brk, PK.day]
    generalize wh.val (p.view d none) = v at c2 ⊢
    have hb : p.day = d.days ∨ (p.day == d.days) = false := by
      by_cases hq : p.day = d.days
      · exact .inl hq
      · exact .inr (by simpa using hq)
    cases r <;> rcases hb with hq | hq <;> cases v <;> (simp [d__law_breaks, b__law_breaks, Pr.e, PK.e, c1, c2, hpd, hday, hq]; exact fin_0 rfl)
theorem c_breaks {k : Nat} (hk : 12 ≤ k) {d : Dl} (hd : d.ok) {p : Pc} (hp : p.ok d) {x : Pr} (hx : x.when.fine d.cts.length d.sls.length) (r : Bool) (h : AH) : callC (tabF L fuel k 51) [d.e, x.e, p.e, .bl r] h = some (.bl (brk d p r x), h) :=
  callV (by simp) (breaks_ok hk hd hp hx r) rfl
/-! ### what is hidden from role 0 -/
def shutD : D := .tup [.str "shut", .non]
def hsE (s' : Se) : Option (Bool × Int) → D
  | some (false, v) => if s'.owner = 0 then sE (some (false, v)) else shutD
  | s => sE s
def hidS (d : Dl) (p : Pc) : List D := List.zipWith hsE d.sls p.ss
theorem hsE_cl (s' s) : closed (hsE s' s) = true := by
  rcases s with _ | ⟨o, w⟩
  · rfl
  · cases o with
    | true => rfl
    | false => simp only [hsE]; split <;> rfl
theorem hid_cl : ∀ (a : List Se) (b : List (Option (Bool × Int))), closeds (List.zipWith hsE a b) = true
  | [], _ => by simp [closeds]
  | _ :: _, [] => by simp [closeds]
  | x :: a, y :: b => by simp [closeds, hsE_cl, hid_cl a b]
def hdB : Ss := (.cons (.expr (.app (.var 3) (.ite (.bop false (.cons (.cmp .is (.var 5) .non) (.cons (.cmp .eq (.idx (.var 5) (.int 0)) (.str "open")) (.cons (.cmp .isin (.idx (.idx (.idx (.var 0) (.int 4)) (.var 4)) (.int 1)) (.var 1)) .nil)))) (.var 5) (.tup (.cons (.str "shut") (.cons .non .nil))))))
 .nil)
theorem b_hid_eq : b__law_hidden = .cons (.set 3 (.fm (.disp .nil))) (.cons (.for_ (.t (.cons (.v 4) (.cons (.v 5) .nil))) (.enum (.idx (.var 2) (.int 2))) hdB)
 (.cons (.ret (.tup (.cons (.idx (.var 2) (.int 0)) (.cons (.idx (.var 2) (.int 1)) (.cons (.blt .tuple (.cons (.var 3) .nil)) (.cons (.idx (.var 2) (.int 3)) (.cons (.blt .tuple (.cons (.comp (.idx (.idx (.var 2) (.int 4)) (.var 6)) (.v 6) (.seq (.var 1)) .no [6]) .nil)) .nil)))))))
 .nil)) := rfl
/-- a place as role 0 sees it -/
def hidE (d : Dl) (p : Pc) (b : Bool) : D := .tup [.int p.day, .tup (p.cs.map .int), .tup (hidS d p), .tup (p.dn.map .int), .tup [.bl b]]
theorem hidden_run {k : Nat} (hk : 1 ≤ k) {d : Dl} (hd : d.ok) {p : Pc} (hp : p.ok d) : ∃ b, tabF L fuel k 52 [d.e, .tup [.int 0], p.e] [] = some (hidE d p b, []) := by
  obtain ⟨k, rfl⟩ : ∃ m, k = m + 1 := ⟨k - 1, by omega⟩
  have hps : 0 < p.ps.length := by rw [hp.p]; exact hd.nr1
  refine ⟨p.ps[0], ?_⟩
  rw [tab_step (d := d__law_hidden) rfl]
  show (exs (tabF L fuel k) fuel b__law_hidden _ []).bind (kRun false 0) = _
  rw [b_hid_eq]
  have hl : (hidS d p).length = p.ss.length := by simp [hidS, hp.s]
  obtain ⟨f, σ', h', hw, rfl, q4, q5, rfl, rfl⟩ := for_ix (tg := .t (.cons (.v 4) (.cons (.v 5) .nil))) (len := ((p.ss.map sE).mapIdx fun i d => D.tup [.int i, d]).length) (b := exs (tabF L fuel k) fuel hdB) ((p.ss.map sE).mapIdx fun i d => D.tup [.int i, d])
    (fun m σ h => ∃ q4 q5, σ = [some d.e, some (.tup [.int 0]), some p.e, some (.ref 0), q4, q5, none] ∧ h = [.lst ((hidS d p).take m)])
    (fun f σ h => f = .nx ∧ ∃ q4 q5, σ = [some d.e, some (.tup [.int 0]), some p.e, some (.ref 0), q4, q5, none] ∧ h = [.lst (hidS d p)])
    (fun σ h ⟨q4, q5, e1, e2⟩ => ⟨rfl, q4, q5, e1, by rw [e2, List.take_of_length_le]; simp [hl]⟩)
    (fun m x σ h hx ⟨q4, q5, e1, e2⟩ => by
      subst e1; subst e2
      rw [List.getElem?_mapIdx, List.getElem?_map] at hx
      cases hs : p.ss[m]? with
      | none => simp [hs] at hx
      | some s =>
        simp only [hs, Option.map_some, Option.some.injEq] at hx
        subst hx
        have hm : m < d.sls.length := by rw [← hp.s]; exact (List.getElem?_eq_some_iff.mp hs).1
        have hs' : d.sls[m]? = some d.sls[m] := List.getElem?_eq_getElem hm
        generalize d.sls[m] = s' at hs'
        have hv : (hidS d p)[m]? = some (hsE s' s) := by simp [hidS, List.getElem?_zipWith, hs, hs']
        have hlen : ((hidS d p).take m).length < lim := by simp [lim]; have := hd.ns; omega
        have hz : (hidS d p).take (m + 1) = (hidS d p).take m ++ [hsE s' s] := by rw [List.take_add_one, hv]; simp
        have j4 : ∀ H, index d.e (.int 4) H = some (.tup (d.sls.map Se.e)) := fun H => by simp [Dl.e]
        have j5 : ∀ H, index (.tup (d.sls.map Se.e)) (.int (m : Nat)) H = some s'.e := fun H => index_at rfl (by simp [hs'])
        have j6 : ∀ H, index s'.e (.int 1) H = some (.int s'.owner) := fun H => by simp [Se.e]
        have j8 : ∀ H, cmpop .isin (.int 0) (.tup [.int 0]) H = some true := fun H => rfl
        have j7 : ∀ H, cmpop .isin (.int s'.owner) (.tup [.int 0]) H = some (s'.owner == 0) := fun H => by
          simp only [cmpop, items, Option.bind_some, flat, List.all_cons, List.all_nil, Bool.and_self, if_true, List.any_cons, List.any_nil, Bool.or_false, beqD]
          congr 1
          rw [Bool.eq_iff_iff]
          simp only [beq_iff_eq]
          omega
        refine ⟨[some d.e, some (.tup [.int 0]), some p.e, some (.ref 0), some (.int (m : Nat)), some (sE s), none], by simp [put, puts], .nx, [some d.e, some (.tup [.int 0]), some p.e, some (.ref 0), some (.int (m : Nat)), some (sE s), none], [.lst ((hidS d p).take (m + 1))], ?_, _, _, rfl, rfl⟩
        rw [hz]
        generalize (hidS d p).take m = A at hlen
        have a0 : ∀ y, kApp2 (.ref 0) (y, [.lst A]) = some (.non, [.lst (A ++ [y])]) := fun y => app_r0 hlen
        generalize d.e = DD at *
        rcases s with _ | ⟨o, w⟩
        · simp [hdB, sE, hsE, a0]
        · cases o with
          | true => simp [hdB, sE, hsE, a0]
          | false =>
            by_cases ho : s'.owner = 0
            · have h1 : (s'.owner == 0) = true := by simp [ho]
              rw [h1] at j7
              simp [hdB, sE, hsE, a0, j4, j5, j6, j7, j8, ho]
            · have h1 : (s'.owner == 0) = false := by simp [ho]
              rw [h1] at j7
              simp [hdB, sE, hsE, a0, j4, j5, j6, j7, ho, shutD])
    [some d.e, some (.tup [.int 0]), some p.e, some (.ref 0), none, none, none] [.lst []] ⟨none, none, rfl, by simp⟩
  have i0 : ∀ H, index p.e (.int 0) H = some (.int p.day) := fun H => rfl
  have i1 : ∀ H, index p.e (.int 1) H = some (.tup (p.cs.map .int)) := fun H => by simp [Pc.e]
  have i2 : ∀ H, index p.e (.int 2) H = some (.tup (p.ss.map sE)) := fun H => by simp [Pc.e]
  have i3 : ∀ H, index p.e (.int 3) H = some (.tup (p.dn.map .int)) := fun H => by simp [Pc.e]
  have i4 : ∀ H, index p.e (.int 4) H = some (.tup (p.ps.map .bl)) := fun H => by simp [Pc.e]
  have i5 : ∀ H, index (.tup (p.ps.map .bl)) (.int 0) H = some (.bl p.ps[0]) := fun H => index_at (n := 0) rfl (by rw [List.getElem?_map, List.getElem?_eq_getElem hps]; rfl)
  have hcl : closed (hidE d p p.ps[0]) = true := by simp [hidE, closeds, hidS, hid_cl]
  have hbt : ∀ H xs, H[0]? = some (AO.lst xs) → bltf .tuple [.ref 0] H = some (.tup xs) := fun H xs e => by simp [bltf, items, e]
  simp only [hidE] at hcl ⊢
  generalize p.e = PP at *
  generalize d.e = DD at *
  simp [d__law_hidden, kFor_ap, i2]
  simp at hw
  rw [hw]
  simp [i0, i1, i2, i3, i4, i5, kComp_ap, lim]
  exact fin_v hcl
/-- either nothing of it is hidden, or it is told so -/
theorem hid_or (d : Dl) (p : Pc) (hp : p.ok d) : hidS d p = p.ss.map sE ∨ shutD ∈ hidS d p := by
  have go : ∀ (a : List Se) (b : List (Option (Bool × Int))), a.length = b.length → List.zipWith hsE a b = b.map sE ∨ shutD ∈ List.zipWith hsE a b := by
    intro a
    induction a with
    | nil => intro b hb; cases b with
      | nil => exact .inl rfl
      | cons _ _ => simp at hb
    | cons x a ih =>
      intro b hb
      cases b with
      | nil => simp at hb
      | cons y b =>
        simp only [List.zipWith_cons_cons, List.map_cons, List.mem_cons]
        rcases ih b (by simpa using hb) with h | h
        · by_cases hx : hsE x y = sE y
          · exact .inl (by rw [hx, h])
          · refine .inr (.inl ?_)
            rcases y with _ | ⟨o, w⟩
            · exact absurd rfl hx
            · cases o with
              | true => exact absurd rfl hx
              | false =>
                simp only [hsE] at hx ⊢
                split
                · rename_i h0; rw [if_pos h0] at hx; exact absurd rfl hx
                · rfl
        · exact .inr (.inr h)
  exact go _ _ hp.s.symm
theorem sE_dep (s) : depD (sE s) ≤ 1 := by rcases s with _ | ⟨o, w⟩ <;> simp [sE, depD, depDs]
theorem hsE_dep (s' s) : depD (hsE s' s) ≤ 1 := by
  rcases s with _ | ⟨o, w⟩
  · exact sE_dep none
  · cases o with
    | true => exact sE_dep (some (true, w))
    | false => simp only [hsE]; split <;> simp [sE, shutD, depD, depDs]
theorem hid_dep : ∀ (a : List Se) (b : List (Option (Bool × Int))), depDs (List.zipWith hsE a b) ≤ 1
  | [], _ => by simp [depDs]
  | _ :: _, [] => by simp [depDs]
  | x :: a, y :: b => by
    have h1 := hsE_dep x y
    have h2 := hid_dep a b
    simp only [List.zipWith_cons_cons, depDs]; omega
theorem in_shut (d : Dl) (p : Pc) (hp : p.ok d) : ∃ b, inTD true shutD (.tup (hidS d p)) = some (.bl b) ∧ (b = true → hidS d p = p.ss.map sE) := by
  refine ⟨_, inTD_ap (x := shutD) rfl (hid_cl _ _) (by decide) (Nat.le_trans (hid_dep _ _) (by decide)), fun hb => ?_⟩
  rcases hid_or d p hp with h | h
  · exact h
  · exfalso
    have : ((hidS d p).any fun z => eqD z shutD) = true := List.any_eq_true.mpr ⟨shutD, h, rfl⟩
    rw [this] at hb
    cases hb
end PyD.K16

namespace PyD.K16
open PyD
variable {fuel : Nat}
/-! ### the bottom of a state -/
def bn (st : List Fr) : Option Nat := (st.map Fr.num).getLast?
theorem bn_beh {bk : List Dl} {t : Fr} {r : List Fr} {w : Rw} {q : Pc} (h : Sok bk (behS bk t r w q)) : bn (behS bk t r w q) = bn (t :: r) := by
  have hT : Sok bk (behT bk t r q) → bn (behT bk t r q) = bn (t :: r) := fun h => by
    unfold behT at h ⊢
    cases r with
    | nil => rfl
    | cons f r =>
      simp only at h ⊢
      cases h1 : bk[t.num]? with
      | none => rw [h1] at h; exact h.elim
      | some d =>
        rw [h1] at h
        simp only at h ⊢
        by_cases h2 : q.day < d.days
        · rw [if_pos h2]; simp [bn]
        · rw [if_neg h2] at h ⊢
          cases h3 : bk[f.num]? with
          | none => rw [h3] at h; exact h.elim
          | some e =>
            rw [h3] at h
            simp only at h ⊢
            cases h4 : e.cls[t.call.toNat]? with
            | none => rw [h4] at h; exact h.elim
            | some c => simp [bn]
  cases w with
  | call n =>
    unfold behS at h ⊢
    simp only at h ⊢
    split at h
    · rename_i c e hce
      simp [bn]
    · exact h.elim
  | _ => exact hT h
theorem bn_at {st : List Fr} {n : Nat} (h : bn st = some n) : ∃ f, st.reverse[0]? = some f ∧ f.num = n := by
  unfold bn at h
  rw [List.getLast?_map] at h
  cases hl : st.getLast? with
  | none => rw [hl] at h; cases h
  | some f =>
    rw [hl] at h
    cases h
    exact ⟨f, by rw [← List.head?_eq_getElem?, List.head?_reverse, hl], rfl⟩
theorem Sok.mem {bk : List Dl} : ∀ {st : List Fr}, Sok bk st → ∀ f ∈ st, ∃ d, f.ok bk d
  | [], h, _, _ => h.elim
  | [g], h, f, hf => by cases List.mem_singleton.mp hf; exact h.1
  | g :: g2 :: r, h, f, hf => by
    rcases List.mem_cons.mp hf with rfl | hf
    · exact h.1
    · exact Sok.mem h.2.2 f hf
theorem Run.bn {bk : List Dl} (hb : Bok bk) {rws : List Rw} {SS : List (List Fr)} (hr : Run bk rws SS) : ∀ (m : Nat) (s : List Fr), SS[m]? = some s → bn s = some (bk.length - 1)
  | 0, s, h => by
    rw [hr.hd] at h
    cases h
    obtain ⟨d, e, _⟩ := firstS_ok hb
    rw [e]; rfl
  | m + 1, s, h => by
    have hlt := (List.getElem?_eq_some_iff.mp h).1
    have hl := hr.len
    obtain ⟨w, hw⟩ : ∃ w, rws[m]? = some w := ⟨_, List.getElem?_eq_getElem (by omega)⟩
    obtain ⟨t, r, d, q, a1, a2, a3, a4⟩ := hr.st m w hw
    rw [a4] at h
    cases h
    have ih := Run.bn hb hr m _ a1
    rw [bn_beh (hr.ok _ (List.mem_of_getElem? a4)), ih]
def noP : Pc := ⟨0, [], [], [], []⟩
def pl0 (s : List Fr) : Pc := (s.reverse[0]?.map Fr.pl).getD noP
/-- the main deal's place at a state -/
theorem Run.bot {bk : List Dl} (hb : Bok bk) {rws : List Rw} {SS : List (List Fr)} (hr : Run bk rws SS) {d : Dl} (hd : bk[bk.length - 1]? = some d) {m : Nat} {s : List Fr} (h : SS[m]? = some s) :
    ∃ f, s.reverse[0]? = some f ∧ f.pl = pl0 s ∧ (pl0 s).ok d := by
  obtain ⟨f, h1, h2⟩ := bn_at (hr.bn hb m s h)
  have hf : f ∈ s := by rw [← List.mem_reverse]; exact List.mem_of_getElem? h1
  obtain ⟨e, he⟩ := (hr.ok s (List.mem_of_getElem? h)).mem f hf
  have := he.at_
  rw [h2, hd] at this
  cases this
  have hp : f.pl = pl0 s := by simp [pl0, h1]
  exact ⟨f, h1, hp, by rw [← hp]; exact he.ok⟩
theorem Fr.i1 (f : Fr) (H : AH) : index f.e (.int 1) H = some f.pl.e := by simp [Fr.e]
/-! ### which promises are broken: plain -/
def inF (d : Dl) (p : Pc) (r : Bool) (ks : List Int) : Nat → List Int
  | 0 => ks
  | m + 1 => match d.prs[m]? with
    | some x => if brk d p r x then putI (inF d p r ks m) m else inF d p r ks m
    | none => inF d p r ks m
def outF (d : Dl) (P : Nat → Pc) (R : Nat → Bool) : Nat → List Int
  | 0 => []
  | m + 1 => inF d (P m) (R m) (outF d P R m) d.prs.length
def Kok (n : Nat) (ks : List Int) : Prop := ks.Nodup ∧ ∀ k ∈ ks, 0 ≤ k ∧ k < (n : Nat)
theorem Kok.len : ∀ {n : Nat} {ks : List Int}, Kok n ks → ks.length ≤ n
  | 0, ks, h => by
    cases ks with
    | nil => exact Nat.le_refl _
    | cons k ks => have := h.2 k (by simp); omega
  | n + 1, ks, h => by
    have h1 : (ks.erase (n : Nat)).length ≤ n := Kok.len ⟨h.1.erase _, fun k hk => by
      obtain ⟨a, b⟩ := (List.Nodup.mem_erase_iff h.1).mp hk
      have := h.2 k b
      omega⟩
    have h2 := List.length_erase (a := ((n : Nat) : Int)) (l := ks)
    split at h2
    · have : 0 < ks.length := List.length_pos_of_mem (by assumption)
      omega
    · omega
theorem Kok.put {n : Nat} {ks : List Int} (h : Kok n ks) {m : Nat} (hm : m < n) : Kok n (putI ks m) := by
  unfold putI
  split
  · exact h
  · rename_i hn
    refine ⟨List.nodup_append.mpr ⟨h.1, by simp, fun a ha b hb => ?_⟩, fun k hk => ?_⟩
    · cases List.mem_singleton.mp hb
      intro z; subst z; exact hn ha
    · rcases List.mem_append.mp hk with hk | hk
      · exact h.2 k hk
      · cases List.mem_singleton.mp hk; omega
theorem Kok.inF {d : Dl} {p : Pc} {r : Bool} {ks : List Int} (h : Kok d.prs.length ks) : ∀ m, Kok d.prs.length (inF d p r ks m)
  | 0 => h
  | m + 1 => by
    simp only [K16.inF]
    have ih := Kok.inF (p := p) (r := r) h m
    cases hx : d.prs[m]? with
    | none => exact ih
    | some x =>
      simp only
      split
      · exact ih.put (List.getElem?_eq_some_iff.mp hx).1
      · exact ih
theorem Kok.outF {d : Dl} {P : Nat → Pc} {R : Nat → Bool} : ∀ m, Kok d.prs.length (outF d P R m)
  | 0 => ⟨List.nodup_nil, fun k hk => by cases hk⟩
  | m + 1 => Kok.inF (Kok.outF m) _
def isDawn : Rw → Bool
  | .dawn => true
  | _ => false
theorem rw_dawn (w : Rw) (h : AH) : cmpop .eq w.e (.tup [.str "dawn"]) h = some (isDawn w) := by
  cases w with
  | act n v =>
    have e := eq_dawn (xs := [.str "do", .int n, vE v]) (by simp) (by cases v <;> simp [vE, depDs, depD]) h
    exact e
  | pass r => exact eq_dawn (xs := [.str "pass", .int r]) rfl (by simp [depDs, depD]) h
  | dawn => exact eq_dawn (xs := [.str "dawn"]) rfl (by simp [depDs, depD]) h
  | call n => exact eq_dawn (xs := [.str "call", .int n]) rfl (by simp [depDs, depD]) h
/-- whether a dawn of the main deal has led to the m-th state -/
def rsn (rws : List Rw) (SS : List (List Fr)) : Nat → Bool
  | 0 => false
  | m + 1 => ((rws[m]?.map isDawn).getD false) && (((SS[m]?.map List.length).getD 0 : Nat) == (1 : Int))
def plN (SS : List (List Fr)) (m : Nat) : Pc := pl0 ((SS[m]?).getD [])
/-! ### the program's walk -/
def brI : Ss := (.cons (.ite (.not (.call 26 (.cons (.var 2) (.cons (.var 8) (.cons (.idx (.idx (.var 3) (.int 0)) (.int 1)) (.cons (.var 6) .nil))))))
 (.cons (.setI (.var 4) (.var 7) (.bl true))
 .nil)
 .nil)
 .nil)
def brB : Ss := (.cons (.set 6 (.bop true (.cons (.cmp .eq (.var 5) (.tup (.cons (.str "dawn") .nil))) (.cons (.cmp .eq (.blt .len (.cons (.var 3) .nil)) (.int 1)) .nil))))
 (.cons (.ite (.cmp .isnot (.var 5) .non)
 (.cons (.set 3 (.call 24 (.cons (.var 0) (.cons (.var 3) (.cons (.var 5) .nil)))))
 .nil)
 .nil)
 (.cons (.for_ (.t (.cons (.v 7) (.cons (.v 8) .nil))) (.enum (.idx (.var 2) (.int 8))) brI)
 .nil)))
theorem b_broken_eq : b_broken = .cons (.par3 2 3 4 (.idx (.var 0) (.neg (.int 1))) (.call 22 (.cons (.var 0) .nil)) .dct0)
 (.cons (.for_ (.v 5) (.seq (.fv (.cat (.fv (.disp (.cons .non .nil))) (.fv (.ofSeq (.var 1)))))) brB)
 (.cons (.ret (.blt .tuple (.cons (.fv (.srt (.var 4))) .nil)))
 .nil)) := rfl
theorem bri_ok {k : Nat} (hk : 7 ≤ k) (hf : 100 ≤ fuel) {d : Dl} (hd : d.ok) {s : List Fr} {f : Fr} (hs : s.reverse[0]? = some f) (hp : f.pl.ok d) (r : Bool) (ks : List Int) (hks : Kok d.prs.length ks) (x0 x1 x5 x7 x8 : Option D) :
    ∃ y7 y8, forL (.t (.cons (.v 7) (.cons (.v 8) .nil))) none ((d.prs.map Pr.e).mapIdx fun i d => D.tup [.int i, d]).length (exs (tabF L fuel k) fuel brI) ((d.prs.map Pr.e).mapIdx fun i d => D.tup [.int i, d]) 0
      [x0, x1, some d.e, some (stD s), some (.ref 0), x5, some (.bl r), x7, x8] [.ids ks] = some (.nx, [x0, x1, some d.e, some (stD s), some (.ref 0), x5, some (.bl r), y7, y8], [.ids (inF d f.pl r ks d.prs.length)]) := by
  obtain ⟨fl, σ', h', hw, rfl, y7, y8, rfl, rfl⟩ := for_ix (tg := .t (.cons (.v 7) (.cons (.v 8) .nil))) (len := ((d.prs.map Pr.e).mapIdx fun i d => D.tup [.int i, d]).length) (b := exs (tabF L fuel k) fuel brI) ((d.prs.map Pr.e).mapIdx fun i d => D.tup [.int i, d])
    (fun m σ h => ∃ y7 y8, σ = [x0, x1, some d.e, some (stD s), some (.ref 0), x5, some (.bl r), y7, y8] ∧ h = [.ids (inF d f.pl r ks m)])
    (fun fl σ h => fl = .nx ∧ ∃ y7 y8, σ = [x0, x1, some d.e, some (stD s), some (.ref 0), x5, some (.bl r), y7, y8] ∧ h = [.ids (inF d f.pl r ks d.prs.length)])
    (fun σ h ⟨y7, y8, e1, e2⟩ => ⟨rfl, y7, y8, e1, by rw [e2]; simp⟩)
    (fun m x σ h hx ⟨y7, y8, e1, e2⟩ => by
      subst e1; subst e2
      rw [List.getElem?_mapIdx, List.getElem?_map] at hx
      cases hs' : d.prs[m]? with
      | none => simp [hs'] at hx
      | some x' =>
        simp only [hs', Option.map_some, Option.some.injEq] at hx
        subst hx
        have hxf := hd.pr _ (List.mem_of_getElem? hs')
        have c := fun h => c_kept (fuel := fuel) (k := k) hk hf hd hp hxf r h
        have hI := Kok.inF (p := f.pl) (r := r) hks m
        have hlen : (inF d f.pl r ks m).length < lim := by have := hI.len; have := hd.np; simp [lim]; omega
        have i0 : ∀ H, index (stD s) (.int 0) H = some f.e := fun H => st_at s 0 f hs H
        have i1 := Fr.i1 f
        have hz : inF d f.pl r ks (m + 1) = if brk d f.pl r x' then putI (inF d f.pl r ks m) m else inF d f.pl r ks m := by simp only [K16.inF, hs']
        refine ⟨[x0, x1, some d.e, some (stD s), some (.ref 0), x5, some (.bl r), some (.int (m : Nat)), some x'.e], by simp [put, puts], .nx, [x0, x1, some d.e, some (stD s), some (.ref 0), x5, some (.bl r), some (.int (m : Nat)), some x'.e], [.ids (inF d f.pl r ks (m + 1))], ?_, _, _, rfl, rfl⟩
        rw [hz]
        generalize inF d f.pl r ks m = K at hlen
        have hput : putID (.ref 0) (.int (m : Nat)) (.bl true) [.ids K] = some [.ids (putI K m)] := by rw [putID_ap (ks := K) rfl hlen]; rfl
        generalize brk d f.pl r x' = B at *
        generalize stD s = ST at *
        generalize f.pl.e = PP at *
        generalize d.e = DD at *
        generalize x'.e = XX at *
        cases B
        · simp [brI, i0, i1, c]
        · simp [brI, i0, i1, c, hput])
    [x0, x1, some d.e, some (stD s), some (.ref 0), x5, some (.bl r), x7, x8] [.ids ks] ⟨_, _, rfl, rfl⟩
  exact ⟨y7, y8, hw⟩
end PyD.K16

namespace PyD.K16
open PyD
variable {fuel : Nat}
theorem c_step {k : Nat} (hk : 11 ≤ k) (hf : 100 ≤ fuel) {bk : List Dl} (hb : Bok bk) {t : Fr} {r : List Fr} (hs : Sok bk (t :: r)) (hl : r.length ≤ 50) {d : Dl} (ht : t.ok bk d) (w : Rw) (hw : w.okR d) (q : Pc) (hq : pbP d t.pl w = some q) (h : AH) :
    callC (tabF L fuel k 24) [bkD bk, stD (t :: r), w.e] h = some (stD (behS bk t r w q), h) := callV (by simp) (step_run hk hf hb hs hl ht w hw q hq) (by simp)
/-- one row, the first one is None -/
theorem brb0_ok {k : Nat} (hk : 11 ≤ k) (hf : 100 ≤ fuel) {bk : List Dl} (hb : Bok bk) {d : Dl} (hd : d.ok) {s : List Fr} {f : Fr} (hs : s.reverse[0]? = some f) (hp : f.pl.ok d) (ks : List Int) (hks : Kok d.prs.length ks) (x1 x6 x7 x8 : Option D) :
    ∃ y7 y8, exs (tabF L fuel k) fuel brB [some (bkD bk), x1, some d.e, some (stD s), some (.ref 0), some .non, x6, x7, x8] [.ids ks] = some (.nx, [some (bkD bk), x1, some d.e, some (stD s), some (.ref 0), some .non, some (.bl false), y7, y8], [.ids (inF d f.pl false ks d.prs.length)]) := by
  obtain ⟨y7, y8, hw⟩ := bri_ok (fuel := fuel) (k := k) (by omega) hf hd hs hp false ks hks (some (bkD bk)) x1 (some .non) x7 x8
  refine ⟨y7, y8, ?_⟩
  have i8 : ∀ H, index d.e (.int 8) H = some (.tup (d.prs.map Pr.e)) := fun H => by simp [Dl.e]
  have e0 : ∀ H, cmpop .eq .non (.tup [.str "dawn"]) H = some false := fun H => rfl
  have e1 : ∀ H, cmpop .isnot .non .non H = some false := fun H => rfl
  generalize d.e = DD at *
  generalize bkD bk = BB at *
  generalize stD s = SD at *
  generalize d.prs.map Pr.e = PE at *
  simp only [brB, exs_cons, exs_nil, ex_set, ev_bop, ev_cmp, ev_var, ev_tup, ev_str, ev_non, evs_cons, evs_nil, List.getElem?_cons_zero, List.getElem?_cons_succ, kvar_ap, Option.bind_some, kEs_ap, kEs2_ap, kTup_ap]
  simp [e0, e1, i8, kFor_ap]
  simp at hw
  rw [hw]
  simp
theorem brb_ok {k : Nat} (hk : 11 ≤ k) (hf : 100 ≤ fuel) {bk : List Dl} (hb : Bok bk) {d : Dl} (hd : d.ok) {t : Fr} {r : List Fr} (hS : Sok bk (t :: r)) (hl : r.length ≤ 50) {e : Dl} (ht : t.ok bk e) (w : Rw) (hwk : w.okR e) (q : Pc) (hq : pbP e t.pl w = some q)
    {f : Fr} (hs : (behS bk t r w q).reverse[0]? = some f) (hp : f.pl.ok d) (ks : List Int) (hks : Kok d.prs.length ks) (x1 x6 x7 x8 : Option D) :
    ∃ y7 y8, exs (tabF L fuel k) fuel brB [some (bkD bk), x1, some d.e, some (stD (t :: r)), some (.ref 0), some w.e, x6, x7, x8] [.ids ks] = some (.nx, [some (bkD bk), x1, some d.e, some (stD (behS bk t r w q)), some (.ref 0), some w.e, some (.bl (isDawn w && (((t :: r).length : Nat) == (1 : Int)))), y7, y8], [.ids (inF d f.pl (isDawn w && (((t :: r).length : Nat) == (1 : Int))) ks d.prs.length)]) := by
  have cs := fun h => c_step (fuel := fuel) (k := k) hk hf hb hS hl ht w hwk q hq h
  have e0 := rw_dawn w
  have e1 : ∀ H, cmpop .isnot w.e .non H = some true := fun H => by cases w <;> rfl
  have i8 : ∀ H, index d.e (.int 8) H = some (.tup (d.prs.map Pr.e)) := fun H => by simp [Dl.e]
  have hln : ∀ H, bltf .len [stD (t :: r)] H = some (.int ((t :: r).length : Nat)) := fun H => st_len _ H
  generalize hR : (isDawn w && (((t :: r).length : Nat) == (1 : Int))) = R
  obtain ⟨y7, y8, hw⟩ := bri_ok (fuel := fuel) (k := k) (by omega) hf hd hs hp R ks hks (some (bkD bk)) x1 (some w.e) x7 x8
  refine ⟨y7, y8, ?_⟩
  have hbop : ∀ H, ev (tabF L fuel k) (.bop true (.cons (.cmp .eq (.var 5) (.tup (.cons (.str "dawn") .nil))) (.cons (.cmp .eq (.blt .len (.cons (.var 3) .nil)) (.int 1)) .nil))) [some (bkD bk), x1, some d.e, some (stD (t :: r)), some (.ref 0), some w.e, x6, x7, x8] H = some (.bl R, H) := by
    intro H
    have e0 := e0 H
    have hln := hln H
    generalize ((t :: r).length : Nat) = N at *
    generalize stD (t :: r) = ST at *
    generalize w.e = WW at *
    generalize isDawn w = B at *
    cases B
    · subst hR
      simp [e0]
    · subst hR
      simp [e0, hln]
  generalize d.e = DD at *
  generalize bkD bk = BB at *
  generalize stD (t :: r) = ST at *
  generalize stD (behS bk t r w q) = SD at *
  generalize d.prs.map Pr.e = PE at *
  generalize w.e = WW at *
  simp only [brB, exs_cons, exs_nil, ex_set, hbop [.ids ks], Option.bind_some, kSet_ap, List.set_cons_succ, List.set_cons_zero, kSeq_nx]
  simp [e1, cs, i8, kFor_ap]
  simp at hw
  rw [hw]
  simp
theorem behS_ok {bk : List Dl} (hb : Bok bk) {rws : List Rw} {SS : List (List Fr)} (hr : Run bk rws SS) {i : Nat} {w : Rw} (hw : rws[i]? = some w) :
    ∃ (t : Fr) (r : List Fr) (e : Dl) (q : Pc), SS[i]? = some (t :: r) ∧ SS[i + 1]? = some (behS bk t r w q) ∧ Sok bk (t :: r) ∧ r.length ≤ 50 ∧ t.ok bk e ∧ w.okR e ∧ pbP e t.pl w = some q := by
  obtain ⟨t, r, d, q, a1, a2, a3, a4⟩ := hr.st i w hw
  have hS := hr.ok _ (List.mem_of_getElem? a1)
  obtain ⟨h1, h2⟩ := rowsA_pb a2.ok _ a3
  have := Sok.num hb hS
  have := hb.few
  exact ⟨t, r, d, q, a1, a4, hS, by omega, a2, h1, h2⟩
theorem cat_rows {rws : List Rw} (hl : rws.length ≤ 1000) (h : AH) : kCat2 (.lst [.non]) (.lst (rws.map Rw.e), h) = some (.non :: rws.map Rw.e, h) := by
  rw [kCat2_ap (xs := [.non]) (ys := rws.map Rw.e) rfl rfl (by simp [lim]; omega)]
  rfl
theorem broken_run {k : Nat} (hk : 12 ≤ k) (hf : 100 ≤ fuel) {bk : List Dl} (hb : Bok bk) {d : Dl} (hd : bk[bk.length - 1]? = some d) (hpr : d.prs.length ≤ 10) {rws : List Rw} {SS : List (List Fr)} (hr : Run bk rws SS) (hrl : rws.length ≤ 1000) :
    tabF L fuel k 27 [bkD bk, .tup (rws.map Rw.e)] [] = some (.tup ((isort (outF d (plN SS) (rsn rws SS) (rws.length + 1))).map .int), []) := by
  obtain ⟨k, rfl⟩ : ∃ m, k = m + 1 := ⟨k - 1, by omega⟩
  have hdo := hb.ok _ (List.mem_of_getElem? hd)
  have hlen := hr.len
  obtain ⟨fl, σ', h', hw, rfl, s, y5, y6, y7, y8, hS, rfl, rfl⟩ := for_ix (tg := .v 5) (len := (D.non :: rws.map Rw.e).length) (b := exs (tabF L fuel k) fuel brB) (D.non :: rws.map Rw.e)
    (fun m σ h => ∃ s y5 y6 y7 y8, SS[m - 1]? = some s ∧ σ = [some (bkD bk), some (.tup (rws.map Rw.e)), some d.e, some (stD s), some (.ref 0), y5, y6, y7, y8] ∧ h = [.ids (outF d (plN SS) (rsn rws SS) m)])
    (fun fl σ h => fl = .nx ∧ ∃ s y5 y6 y7 y8, SS[rws.length]? = some s ∧ σ = [some (bkD bk), some (.tup (rws.map Rw.e)), some d.e, some (stD s), some (.ref 0), y5, y6, y7, y8] ∧ h = [.ids (outF d (plN SS) (rsn rws SS) (rws.length + 1))])
    (fun σ h ⟨s, y5, y6, y7, y8, e0, e1, e2⟩ => ⟨rfl, s, y5, y6, y7, y8, by simpa using e0, e1, by rw [e2]; simp⟩)
    (fun m x σ h hx ⟨s, y5, y6, y7, y8, e0, e1, e2⟩ => by
      subst e1; subst e2
      have hK := Kok.outF (d := d) (P := plN SS) (R := rsn rws SS) m
      match m, hx, e0, hK with
      | 0, hx, e0, hK =>
        simp only [List.getElem?_cons_zero, Option.some.injEq] at hx
        subst hx
        have e0 : SS[0]? = some s := e0
        obtain ⟨f, hf1, hf2, hf3⟩ := hr.bot hb hd e0
        rw [← hf2] at hf3
        obtain ⟨z7, z8, e⟩ := brb0_ok (fuel := fuel) (k := k) (by omega) hf hb hdo hf1 hf3 _ hK (some (.tup (rws.map Rw.e))) y6 y7 y8
        refine ⟨_, by simp [put], .nx, _, _, e, s, _, _, _, _, e0, rfl, ?_⟩
        have h1 : plN SS 0 = f.pl := by simp [plN, e0, hf2]
        simp only [outF, h1, rsn]
      | i + 1, hx, e0, hK =>
        simp only [List.getElem?_cons_succ, List.getElem?_map, Option.map_eq_some_iff] at hx
        obtain ⟨w, hw, rfl⟩ := hx
        obtain ⟨t, r, e, q, a1, a2, a3, a4, a5, a6, a7⟩ := behS_ok hb hr hw
        have e0 : SS[i]? = some s := e0
        rw [a1] at e0
        cases e0
        obtain ⟨f, hf1, hf2, hf3⟩ := hr.bot hb hd a2
        rw [← hf2] at hf3
        obtain ⟨z7, z8, e⟩ := brb_ok (fuel := fuel) (k := k) (by omega) hf hb hdo a3 a4 a5 w a6 q a7 hf1 hf3 _ hK (some (.tup (rws.map Rw.e))) y6 y7 y8
        refine ⟨_, by simp [put], .nx, _, _, e, _, _, _, _, _, a2, rfl, ?_⟩
        have h1 : plN SS (i + 1) = f.pl := by simp [plN, a2, hf2]
        have h2 : rsn rws SS (i + 1) = (isDawn w && (((t :: r).length : Nat) == (1 : Int))) := by simp only [rsn, hw, a1, Option.map_some, Option.getD_some]
        simp only [outF, h1, h2])
    [some (bkD bk), some (.tup (rws.map Rw.e)), some d.e, some (stD (firstS bk)), some (.ref 0), none, none, none, none] [.ids []] ⟨_, _, _, _, _, hr.hd, rfl, rfl⟩
  have i1 := bk_last hb.ne hd
  have cb := fun h => callV (h := h) (by simp) (bstate_run (fuel := fuel) (k := k) (by omega) hb) (by simp)
  have hK := Kok.outF (d := d) (P := plN SS) (R := rsn rws SS) (rws.length + 1)
  have hK1 := hK.len
  have hsrt : ∀ H ks, H[0]? = some (AO.ids ks) → ks.length < 64 → sortOf (.ref 0) H = some ks := fun H ks e1 e2 => by simp [sortOf, e1, e2]
  generalize outF d (plN SS) (rsn rws SS) (rws.length + 1) = KS at *
  have hs2 := hsrt [.ids KS] KS rfl (by omega)
  have hcat := cat_rows (rws := rws) hrl
  have hit : ∀ H, items (.tup (rws.map Rw.e)) H = some (rws.map Rw.e) := fun H => rfl
  rw [tab_step (d := d_broken) rfl]
  show (exs (tabF L fuel k) fuel b_broken _ []).bind (kRun false 0) = _
  rw [b_broken_eq]
  generalize hRW : rws.map Rw.e = RW at *
  generalize bkD bk = BB at *
  generalize d.e = DD at *
  generalize stD (firstS bk) = SF at *
  generalize stD s = SD at *
  simp [d_broken, i1, cb, hcat, hit, kFor_ap]
  simp at hw
  rw [hw]
  simp [hs2]
  exact fin_v (by simp [closeds_map D.int (fun _ => rfl)])
end PyD.K16

namespace PyD.K16
open PyD
variable {fuel : Nat}
/-! ### the law's own -/
def lbI : Ss := (.cons (.ite (.bop true (.cons (.cmp .notin (.var 8) (.var 4)) (.cons (.call 51 (.cons (.var 3) (.cons (.var 9) (.cons (.idx (.idx (.var 6) (.int 0)) (.int 1)) (.cons (.var 7) .nil))))) .nil)))
 (.cons (.expr (.app (.var 4) (.var 8)))
 .nil)
 .nil)
 .nil)
def lbB : Ss := (.cons (.set 7 (.bop true (.cons (.cmp .gt (.var 5) (.int 0)) (.cons (.cmp .eq (.idx (.var 2) (.bin .sub (.var 5) (.int 1))) (.tup (.cons (.str "dawn") .nil))) (.cons (.cmp .eq (.blt .len (.cons (.idx (.var 1) (.bin .sub (.var 5) (.int 1))) .nil)) (.int 1)) .nil)))))
 (.cons (.for_ (.t (.cons (.v 8) (.cons (.v 9) .nil))) (.enum (.idx (.var 3) (.int 8))) lbI)
 .nil))
theorem b_lbroken_eq : b__law_broken = .cons (.par2 3 4 (.idx (.var 0) (.neg (.int 1))) (.fm (.disp .nil)))
 (.cons (.for_ (.t (.cons (.v 5) (.cons (.v 6) .nil))) (.enum (.var 1)) lbB)
 (.cons (.ret (.blt .tuple (.cons (.fv (.srt (.var 4))) .nil)))
 .nil)) := rfl
theorem notin_ints (k : Int) (ks : List Int) (r : AH) : cmpop .notin (.int k) (.ref 0) (.lst (ks.map .int) :: r) = some (decide (k ∉ ks)) := by
  have h1 : ((ks.map D.int).all flat) = true := by rw [List.all_map]; exact List.all_eq_true.mpr fun _ _ => rfl
  have h2 : ((ks.map D.int).any fun y => beqD y (.int k)) = decide (k ∈ ks) := by
    rw [Bool.eq_iff_iff, List.any_map, List.any_eq_true, decide_eq_true_eq]
    constructor
    · rintro ⟨y, hy, e⟩
      simp only [Function.comp, beqD, beq_iff_eq] at e
      subst e; exact hy
    · intro h
      exact ⟨k, h, by simp [beqD]⟩
  show ((items (.ref 0) (.lst (ks.map .int) :: r)).bind fun xs => if flat (.int k) && xs.all flat then some (!xs.any fun y => beqD y (.int k)) else none) = _
  have h3 : items (.ref 0) (.lst (ks.map .int) :: r) = some (ks.map .int) := rfl
  rw [h3, Option.bind_some, h1, h2]
  simp [flat]
theorem lbi_ok {k : Nat} (hk : 12 ≤ k) {d : Dl} (hd : d.ok) {s : List Fr} {f : Fr} (hs : s.reverse[0]? = some f) (hp : f.pl.ok d) (r : Bool) (ks : List Int) (hks : Kok d.prs.length ks) (x0 x1 x2 x5 x8 x9 : Option D) :
    ∃ y8 y9, forL (.t (.cons (.v 8) (.cons (.v 9) .nil))) none ((d.prs.map Pr.e).mapIdx fun i d => D.tup [.int i, d]).length (exs (tabF L fuel k) fuel lbI) ((d.prs.map Pr.e).mapIdx fun i d => D.tup [.int i, d]) 0
      [x0, x1, x2, some d.e, some (.ref 0), x5, some (stD s), some (.bl r), x8, x9] [.lst (ks.map .int)] = some (.nx, [x0, x1, x2, some d.e, some (.ref 0), x5, some (stD s), some (.bl r), y8, y9], [.lst ((inF d f.pl r ks d.prs.length).map .int)]) := by
  obtain ⟨fl, σ', h', hw, rfl, y8, y9, rfl, rfl⟩ := for_ix (tg := .t (.cons (.v 8) (.cons (.v 9) .nil))) (len := ((d.prs.map Pr.e).mapIdx fun i d => D.tup [.int i, d]).length) (b := exs (tabF L fuel k) fuel lbI) ((d.prs.map Pr.e).mapIdx fun i d => D.tup [.int i, d])
    (fun m σ h => ∃ y8 y9, σ = [x0, x1, x2, some d.e, some (.ref 0), x5, some (stD s), some (.bl r), y8, y9] ∧ h = [.lst ((inF d f.pl r ks m).map .int)])
    (fun fl σ h => fl = .nx ∧ ∃ y8 y9, σ = [x0, x1, x2, some d.e, some (.ref 0), x5, some (stD s), some (.bl r), y8, y9] ∧ h = [.lst ((inF d f.pl r ks d.prs.length).map .int)])
    (fun σ h ⟨y8, y9, e1, e2⟩ => ⟨rfl, y8, y9, e1, by rw [e2]; simp⟩)
    (fun m x σ h hx ⟨y8, y9, e1, e2⟩ => by
      subst e1; subst e2
      rw [List.getElem?_mapIdx, List.getElem?_map] at hx
      cases hs' : d.prs[m]? with
      | none => simp [hs'] at hx
      | some x' =>
        simp only [hs', Option.map_some, Option.some.injEq] at hx
        subst hx
        have hxf := hd.pr _ (List.mem_of_getElem? hs')
        have c := fun h => c_breaks (fuel := fuel) (k := k) hk hd hp hxf r h
        have hI := Kok.inF (p := f.pl) (r := r) hks m
        have hlen : ((inF d f.pl r ks m).map D.int).length < lim := by have := hI.len; have := hd.np; simp [lim]; omega
        have i0 : ∀ H, index (stD s) (.int 0) H = some f.e := fun H => st_at s 0 f hs H
        have i1 := Fr.i1 f
        have hz : inF d f.pl r ks (m + 1) = if brk d f.pl r x' then putI (inF d f.pl r ks m) m else inF d f.pl r ks m := by simp only [K16.inF, hs']
        refine ⟨[x0, x1, x2, some d.e, some (.ref 0), x5, some (stD s), some (.bl r), some (.int (m : Nat)), some x'.e], by simp [put, puts], .nx, [x0, x1, x2, some d.e, some (.ref 0), x5, some (stD s), some (.bl r), some (.int (m : Nat)), some x'.e], [.lst ((inF d f.pl r ks (m + 1)).map .int)], ?_, _, _, rfl, rfl⟩
        rw [hz]
        generalize inF d f.pl r ks m = K at hlen
        have hni := notin_ints (m : Nat) K []
        have ha : kApp2 (.ref 0) (.int (m : Nat), [.lst (K.map D.int)]) = some (.non, [.lst (K.map D.int ++ [.int (m : Nat)])]) := app_r0 hlen
        have hq : putI K m = if ((m : Nat) : Int) ∈ K then K else K ++ [((m : Nat) : Int)] := rfl
        generalize brk d f.pl r x' = B at *
        generalize stD s = ST at *
        generalize f.pl.e = PP at *
        generalize d.e = DD at *
        generalize x'.e = XX at *
        by_cases hm : ((m : Nat) : Int) ∈ K
        · rw [decide_eq_false (by simpa using hm)] at hni
          rw [if_pos hm] at hq
          rw [hq]
          cases B <;> simp [lbI, hni]
        · rw [decide_eq_true hm] at hni
          rw [if_neg hm] at hq
          rw [hq]
          cases B
          · simp [lbI, i0, i1, c, hni]
          · simp [lbI, i0, i1, c, hni, ha])
    [x0, x1, x2, some d.e, some (.ref 0), x5, some (stD s), some (.bl r), x8, x9] [.lst (ks.map .int)] ⟨_, _, rfl, rfl⟩
  exact ⟨y8, y9, hw⟩
theorem ris_ok {C : Nat → Fun} {rws : List Rw} {SS : List (List Fr)} (hlen : SS.length = rws.length + 1) {m : Nat} (hm : m < SS.length) (x0 x3 x4 x6 x7 x8 x9 : Option D) (h : AH) :
    ev C (.bop true (.cons (.cmp .gt (.var 5) (.int 0)) (.cons (.cmp .eq (.idx (.var 2) (.bin .sub (.var 5) (.int 1))) (.tup (.cons (.str "dawn") .nil))) (.cons (.cmp .eq (.blt .len (.cons (.idx (.var 1) (.bin .sub (.var 5) (.int 1))) .nil)) (.int 1)) .nil)))) [x0, some (.lst (SS.map stD)), some (.lst (rws.map Rw.e)), x3, x4, some (.int (m : Nat)), x6, x7, x8, x9] h = some (.bl (rsn rws SS m), h) := by
  match m, hm with
  | 0, _ => simp [rsn]
  | i + 1, hm =>
    obtain ⟨w, hw⟩ : ∃ w, rws[i]? = some w := ⟨_, List.getElem?_eq_getElem (by omega)⟩
    obtain ⟨s, hs⟩ : ∃ s, SS[i]? = some s := ⟨_, List.getElem?_eq_getElem (by omega)⟩
    have hR : rsn rws SS (i + 1) = (isDawn w && ((s.length : Nat) == (1 : Int))) := by simp only [rsn, hw, hs, Option.map_some, Option.getD_some]
    rw [hR]
    obtain ⟨M, hM, hM2, hM3⟩ : ∃ M : Int, (((i + 1 : Nat) : Int) = M) ∧ M - 1 = (i : Nat) ∧ 0 < M := ⟨_, rfl, by omega, by omega⟩
    rw [hM]
    have i1 : ∀ H, index (.lst (rws.map Rw.e)) (.int (i : Nat)) H = some w.e := fun H => index_at rfl (by rw [List.getElem?_map, hw]; rfl)
    have i2 : ∀ H, index (.lst (SS.map stD)) (.int (i : Nat)) H = some (stD s) := fun H => index_at rfl (by rw [List.getElem?_map, hs]; rfl)
    have e0 := fun H => rw_dawn w H
    have hln := fun H => st_len s H
    have hg : decide (0 < M) = true := decide_eq_true hM3
    generalize rws.map Rw.e = RW at *
    generalize SS.map stD = SD at *
    generalize (s.length : Nat) = N at *
    generalize stD s = ST at *
    generalize w.e = WW at *
    generalize isDawn w = B at *
    cases B
    · simp [hg, hM2, i1, e0]
    · simp [hg, hM2, i1, i2, e0, hln]
theorem lbroken_run {k : Nat} (hk : 13 ≤ k) {bk : List Dl} (hb : Bok bk) {d : Dl} (hd : bk[bk.length - 1]? = some d) {rws : List Rw} {SS : List (List Fr)} (hr : Run bk rws SS) :
    tabF L fuel k 59 [bkD bk, .lst (SS.map stD), .lst (rws.map Rw.e)] [] = some (.tup ((isort (outF d (plN SS) (rsn rws SS) (rws.length + 1))).map .int), []) := by
  obtain ⟨k, rfl⟩ : ∃ m, k = m + 1 := ⟨k - 1, by omega⟩
  have hdo := hb.ok _ (List.mem_of_getElem? hd)
  have hlen := hr.len
  obtain ⟨fl, σ', h', hw, rfl, y5, y6, y7, y8, y9, rfl, rfl⟩ := for_ix (tg := .t (.cons (.v 5) (.cons (.v 6) .nil))) (len := ((SS.map stD).mapIdx fun i d => D.tup [.int i, d]).length) (b := exs (tabF L fuel k) fuel lbB) ((SS.map stD).mapIdx fun i d => D.tup [.int i, d])
    (fun m σ h => ∃ y5 y6 y7 y8 y9, σ = [some (bkD bk), some (.lst (SS.map stD)), some (.lst (rws.map Rw.e)), some d.e, some (.ref 0), y5, y6, y7, y8, y9] ∧ h = [.lst ((outF d (plN SS) (rsn rws SS) m).map .int)])
    (fun fl σ h => fl = .nx ∧ ∃ y5 y6 y7 y8 y9, σ = [some (bkD bk), some (.lst (SS.map stD)), some (.lst (rws.map Rw.e)), some d.e, some (.ref 0), y5, y6, y7, y8, y9] ∧ h = [.lst ((outF d (plN SS) (rsn rws SS) (rws.length + 1)).map .int)])
    (fun σ h ⟨y5, y6, y7, y8, y9, e1, e2⟩ => ⟨rfl, y5, y6, y7, y8, y9, e1, by rw [e2]; simp [hlen]⟩)
    (fun m x σ h hx ⟨y5, y6, y7, y8, y9, e1, e2⟩ => by
      subst e1; subst e2
      have hK := Kok.outF (d := d) (P := plN SS) (R := rsn rws SS) m
      rw [List.getElem?_mapIdx, List.getElem?_map] at hx
      cases hs' : SS[m]? with
      | none => simp [hs'] at hx
      | some s =>
        simp only [hs', Option.map_some, Option.some.injEq] at hx
        subst hx
        have hm := (List.getElem?_eq_some_iff.mp hs').1
        obtain ⟨f, hf1, hf2, hf3⟩ := hr.bot hb hd hs'
        rw [← hf2] at hf3
        obtain ⟨z8, z9, e⟩ := lbi_ok (fuel := fuel) (k := k) (by omega) hdo hf1 hf3 (rsn rws SS m) _ hK (some (bkD bk)) (some (.lst (SS.map stD))) (some (.lst (rws.map Rw.e))) (some (.int (m : Nat))) y8 y9
        have er := ris_ok (C := tabF L fuel k) hlen hm (some (bkD bk)) (some d.e) (some (.ref 0)) (some (stD s)) y7 y8 y9 [.lst ((outF d (plN SS) (rsn rws SS) m).map .int)]
        have h1 : plN SS m = f.pl := by simp [plN, hs', hf2]
        have hz : outF d (plN SS) (rsn rws SS) (m + 1) = inF d f.pl (rsn rws SS m) (outF d (plN SS) (rsn rws SS) m) d.prs.length := by simp only [outF, h1]
        have i8 : ∀ H, index d.e (.int 8) H = some (.tup (d.prs.map Pr.e)) := fun H => by simp [Dl.e]
        refine ⟨[some (bkD bk), some (.lst (SS.map stD)), some (.lst (rws.map Rw.e)), some d.e, some (.ref 0), some (.int (m : Nat)), some (stD s), y7, y8, y9], by simp [put, puts], .nx, [some (bkD bk), some (.lst (SS.map stD)), some (.lst (rws.map Rw.e)), some d.e, some (.ref 0), some (.int (m : Nat)), some (stD s), some (.bl (rsn rws SS m)), z8, z9], [.lst ((outF d (plN SS) (rsn rws SS) (m + 1)).map .int)], ?_, _, _, _, _, _, rfl, rfl⟩
        rw [hz]
        generalize SS.map stD = SD at *
        generalize rws.map Rw.e = RW at *
        generalize (outF d (plN SS) (rsn rws SS) m).map D.int = KS at *
        generalize rsn rws SS m = R at *
        generalize stD s = ST at *
        generalize bkD bk = BB at *
        generalize d.e = DD at *
        generalize d.prs.map Pr.e = PE at *
        simp only [lbB, exs_cons, exs_nil, ex_set, er, Option.bind_some, kSet_ap, List.set_cons_succ, List.set_cons_zero, kSeq_nx, ex_for, evI_enum, ev_idx, ev_var, ev_int, List.getElem?_cons_zero, List.getElem?_cons_succ, kvar_ap, kIdx_ap, kIdx2_ap, i8, kOut_eq, kEn_tup, kFor_ap, e])
    [some (bkD bk), some (.lst (SS.map stD)), some (.lst (rws.map Rw.e)), some d.e, some (.ref 0), none, none, none, none, none] [.lst []] ⟨_, _, _, _, _, rfl, rfl⟩
  have i1 := bk_last hb.ne hd
  generalize outF d (plN SS) (rsn rws SS) (rws.length + 1) = KS at *
  have hio : ∀ ks : List Int, intsOf (ks.map .int) = some ks := fun ks => by
    induction ks with
    | nil => rfl
    | cons k ks ih => simp only [List.map_cons, intsOf, ih, Option.map_some]
  have hsrt : ∀ H ks, H[0]? = some (AO.lst (ks.map .int)) → sortOf (.ref 0) H = some ks := fun H ks e1 => by simp [sortOf, e1, hio]
  have hs2 := hsrt [.lst (KS.map .int)] KS rfl
  rw [tab_step (d := d__law_broken) rfl]
  show (exs (tabF L fuel k) fuel b__law_broken _ []).bind (kRun false 0) = _
  rw [b_lbroken_eq]
  generalize SS.map stD = SD at *
  generalize rws.map Rw.e = RW at *
  generalize bkD bk = BB at *
  generalize d.e = DD at *
  simp [d__law_broken, i1, kFor_ap]
  simp at hw
  rw [hw]
  simp [hs2]
  exact fin_v (by simp [closeds_map D.int (fun _ => rfl)])
/-! ### known_begin -/
theorem known_run {k : Nat} (hk : 2 ≤ k) {d : Dl} (hd : d.ok) : ∃ z : D, tabF L fuel k 28 [d.e, .tup [.int 0]] [] = some (z, []) ∧ closed z = true ∧ ∀ H, index z (.int 1) H = some (.tup (d.first.cs.map .int)) := by
  obtain ⟨k, rfl⟩ : ∃ m, k = m + 1 := ⟨k - 1, by omega⟩
  have c := c_begin (fuel := fuel) (k := k) (by omega) hd []
  have hm := mul_t (x := .bl false) (n := 1) (by omega)
  refine ⟨.tup [.int d.first.day, .tup (d.first.cs.map .int), .tup (d.first.ss.map sE), .tup (d.first.dn.map .int), .tup [.bl false], .tup [.tup []]], ?_, by simp [closed, closeds], fun H => by simp⟩
  generalize d.e = DD at *
  generalize d.first = p at *
  have hl : bltf .len [.tup [.int 0]] [] = some (.int 1) := rfl
  have hm : binop .mul (.tup [.bl false]) (.int 1) = some (.tup [.bl false]) := rfl
  rw [tab_step (d := d_known_begin) rfl]
  simp [d_known_begin, b_known_begin, c, Pc.e, put, puts, hl, hm]
  exact fin_0 (by simp [closeds])
end PyD.K16

namespace PyD.K16
open PyD
variable {fuel : Nat}
/-! ### the book -/
theorem bok1 {d : Dl} (hd : d.ok) (hc : d.cls = []) : Bok [d] := by
  refine ⟨fun x hx => ?_, fun n x hn c' hc' => ?_, by simp, by simp⟩
  · cases List.mem_singleton.mp hx; exact hd
  · match n, hn with
    | 0, hn =>
      simp only [List.getElem?_cons_zero, Option.some.injEq] at hn
      subst hn; rw [hc] at hc'; cases hc'
    | n + 1, hn => simp at hn
theorem book_run {k : Nat} (hk : 19 ≤ k) (hf : 700 ≤ fuel) (s : Bx) : ∃ (bk : List Dl) (d : Dl) (s' : Bx), tabF L fuel k 53 [.ref 0, .int 160] [.lst s.ds] = some (bkD bk, [.lst s'.ds]) ∧ Bok bk ∧ bk[bk.length - 1]? = some d ∧ d.prs.length ≤ 10 := by
  obtain ⟨k, rfl⟩ : ∃ m, k = m + 1 := ⟨k - 1, by omega⟩
  have t3 := c_tk (fuel := fuel) (k := k) (by omega) 3 (by omega) (by omega) s []
  obtain ⟨w, s1, e1, hw⟩ := tk_nat s 3 (by omega)
  rw [e1] at t3
  cases hz : ((w : Int) == 0) with
  | true =>
    obtain ⟨e, d, c, s2, e50, he, hec, hd, hc1, hc2⟩ := with_run (fuel := fuel) (k := k) (by omega) hf 160 40 rfl (by omega) s1
    have c50 := c_bx e50 rfl (by simp) []
    refine ⟨[e, d.withCl [c]], d.withCl [c], s2, ?_, bok2 he hec hd hc1 hc2, rfl, hd.np⟩
    have c50 : callC (tabF L fuel k 50) [.ref 0, .int 160] [.lst s1.ds] = some (bkD [e, d.withCl [c]], [.lst s2.ds]) := c50
    rw [tab_step (d := d__law_book) rfl]
    simp [d__law_book, b__law_book, t3, hz, c50]
    exact fin_o (by simp) rfl
  | false =>
    obtain ⟨d, s2, e48, h1, h2, h3, h4, h5, _⟩ := deal_run (fuel := fuel) (k := k) (by omega) hf 160 (by omega) s1
    have c48 := c_bx e48 rfl (by simp) []
    have c48 : callC (tabF L fuel k 48) [.ref 0, .int 160] [.lst s1.ds] = some (d.e, [.lst s2.ds]) := c48
    refine ⟨[d], d, s2, ?_, bok1 h1 h3, rfl, h2⟩
    rw [tab_step (d := d__law_book) rfl]
    simp [d__law_book, b__law_book, t3, hz, c48]
    exact fin_o (d := bkD [d]) (by simp) rfl
/-! ### the law's walks -/
def wR : Ss := (.cons (.set 11 (.not (.call 51 (.cons (.var 6) (.cons (.var 9) (.cons (.var 8) (.cons (.var 10) .nil)))))))
 (.cons (.set 12 (.tup (.cons (.int 0) .nil)))
 (.cons (.set 13 (.bin .add (.call 52 (.cons (.var 6) (.cons (.var 12) (.cons (.var 8) .nil)))) (.tup (.cons (.tup (.cons (.tup .nil) .nil)) .nil))))
 (.cons (.ite (.not (.call 32 (.cons (.callK 26 (.cons (.var 6) (.cons (.var 9) (.cons (.var 8) .nil))) (.cons (.var 10) .nil)) (.cons (.var 11) .nil))))
 (.cons (.ret (.bl false))
 .nil)
 .nil)
 (.cons (.ite (.bop true (.cons (.inT true (.tup (.cons (.str "shut") (.cons .non .nil))) (.idx (.var 13) (.int 2))) (.cons (.not (.call 32 (.cons (.call 26 (.cons (.var 6) (.cons (.var 9) (.cons (.var 13) (.cons (.var 10) .nil))))) (.cons (.var 11) .nil)))) .nil)))
 (.cons (.ret (.bl false))
 .nil)
 .nil)
 .nil)))))
def wP : Ss := (.cons (.for_ (.v 10) (.seq (.tup (.cons (.bl true) (.cons (.bl false) .nil)))) wR)
 (.cons (.ite (.not (.call 32 (.cons (.call 25 (.cons (.var 6) (.cons (.var 8) (.cons (.idx (.var 9) (.int 2)) .nil)))) (.cons (.call 34 (.cons (.idx (.var 9) (.int 2)) (.cons (.var 8) (.cons (.call 35 (.cons (.var 6) (.cons (.var 8) (.cons .non .nil)))) .nil)))) .nil))))
 (.cons (.ret (.bl false))
 .nil)
 .nil)
 .nil))
def wS : Ss := (.cons (.set 8 (.idx (.idx (.var 7) (.int 0)) (.int 1)))
 (.cons (.for_ (.v 9) (.seq (.idx (.var 6) (.int 8))) wP)
 .nil))
def wT : Ss := (.cons (.set 6 (.idx (.var 3) (.neg (.int 1))))
 (.cons (.for_ (.v 7) (.seq (.var 5)) wS)
 (.cons (.ite (.cmp .ne (.idx (.call 28 (.cons (.var 6) (.cons (.tup (.cons (.int 0) .nil)) .nil))) (.int 1)) (.idx (.idx (.idx (.idx (.var 5) (.int 0)) (.int 0)) (.int 1)) (.int 1)))
 (.cons (.ret (.bl false))
 .nil)
 .nil)
 .nil)))
def wM : Ss := (.cons (.asg (.t (.cons (.v 4) (.cons (.v 5) .nil))) (.call 58 (.cons (.var 2) (.cons (.var 3) (.cons (.call 30 (.cons (.var 2) (.cons (.int 26) .nil))) .nil)))))
 (.cons (.ite (.not (.call 32 (.cons (.call 27 (.cons (.var 3) (.cons (.blt .tuple (.cons (.var 4) .nil)) .nil))) (.cons (.call 59 (.cons (.var 3) (.cons (.var 5) (.cons (.var 4) .nil)))) .nil))))
 (.cons (.ret (.bl false))
 .nil)
 .nil)
 wT))
def wB : Ss := (.cons (.set 2 (.call 29 (.cons (.var 0) (.cons (.var 1) .nil))))
 (.cons (.set 3 (.call 53 (.cons (.var 2) (.cons (.int 160) .nil))))
 wM))
theorem b_law_eq : b_law = .cons (.for_ (.v 1) (.rng1 (.blt .max (.cons (.int 3) (.cons (.blt .min (.cons (.blt .len (.cons (.var 0) .nil)) (.cons (.int 7) .nil))) .nil)))) wB)
 (.cons (.ret (.bl true))
 .nil) := rfl
theorem wr_ok {k : Nat} (hk : 12 ≤ k) (hf : 100 ≤ fuel) {d : Dl} (hd : d.ok) {p : Pc} (hp : p.ok d) {x : Pr} (hx : x.when.fine d.cts.length d.sls.length) (r : Bool) (x0 x1 x2 x3 x4 x5 x7 x11 x12 x13 : Option D) (h : AH) :
    ∃ y11 y12 y13, exs (tabF L fuel k) fuel wR [x0, x1, x2, x3, x4, x5, some d.e, x7, some p.e, some x.e, some (.bl r), x11, x12, x13] h = some (.nx, [x0, x1, x2, x3, x4, x5, some d.e, x7, some p.e, some x.e, some (.bl r), y11, y12, y13], h) := by
  have c51 := fun h => c_breaks (fuel := fuel) (k := k) hk hd hp hx r h
  obtain ⟨b0, e52⟩ := hidden_run (fuel := fuel) (k := k) (by omega) hd hp
  have hcl : closed (hidE d p b0) = true := by simp [hidE, closeds, hidS, hid_cl]
  have c52 := fun h => callV (h := h) (by simp) e52 hcl
  obtain ⟨bb, hin, hbb⟩ := in_shut d p hp
  have ck := fun h => c_kept (fuel := fuel) (k := k) (by omega) hf hd hp hx r h
  have cs := fun h => c_same_b (fuel := fuel) (k := k) (by omega) (!brk d p r x) h
  have hadd : binop .add (hidE d p b0) (.tup [.tup [.tup []]]) = some (.tup [.int p.day, .tup (p.cs.map .int), .tup (hidS d p), .tup (p.dn.map .int), .tup [.bl b0], .tup [.tup []]]) := add_t (by simp [lim])
  have hix : ∀ H, index (.tup [.int p.day, .tup (p.cs.map .int), .tup (hidS d p), .tup (p.dn.map .int), .tup [.bl b0], .tup [.tup []]]) (.int 2) H = some (.tup (hidS d p)) := fun H => by simp
  have hkG : bb = true → ∀ h, callC (tabF L fuel k 26) [d.e, x.e, .tup [.int p.day, .tup (p.cs.map .int), .tup (hidS d p), .tup (p.dn.map .int), .tup [.bl b0], .tup [.tup []]], .bl r] h = some (.bl (!brk d p r x), h) := fun hb h => by
    rw [hbb hb]
    exact c_keptG (fuel := fuel) (k := k) (by omega) hf hd hp (rest := [.tup (p.dn.map .int), .tup [.bl b0], .tup [.tup []]]) (by simp [closeds]) hx r h
  have hsh : D.tup [.str "shut", .non] = shutD := rfl
  generalize hG : D.tup [.int p.day, .tup (p.cs.map .int), .tup (hidS d p), .tup (p.dn.map .int), .tup [.bl b0], .tup [.tup []]] = G at *
  refine ⟨some (.bl (!brk d p r x)), some (.tup [.int 0]), some G, ?_⟩
  generalize hB : brk d p r x = B at *
  generalize D.tup (hidS d p) = HS at *
  generalize hidE d p b0 = HE at *
  generalize d.e = DD at *
  generalize p.e = PP at *
  generalize x.e = XX at *
  cases bb with
  | true =>
    have hkG := hkG rfl
    cases B
    · simp only [Bool.not_false] at ck cs hkG
      simp [wR, c51, c52, hadd, ck, cs, hix, hsh, hin, hkG]
    · simp only [Bool.not_true] at ck cs hkG
      simp [wR, c51, c52, hadd, ck, cs, hix, hsh, hin, hkG]
  | false =>
    cases B
    · simp only [Bool.not_false] at ck cs
      simp [wR, c51, c52, hadd, ck, cs, hix, hsh, hin]
    · simp only [Bool.not_true] at ck cs
      simp [wR, c51, c52, hadd, ck, cs, hix, hsh, hin]
theorem wp_ok {k : Nat} (hk : 12 ≤ k) (hf : 100 ≤ fuel) {d : Dl} (hd : d.ok) {p : Pc} (hp : p.ok d) {x : Pr} (hx : x.when.fine d.cts.length d.sls.length) (x0 x1 x2 x3 x4 x5 x7 x10 x11 x12 x13 : Option D) (h : AH) :
    ∃ y10 y11 y12 y13, exs (tabF L fuel k) fuel wP [x0, x1, x2, x3, x4, x5, some d.e, x7, some p.e, some x.e, x10, x11, x12, x13] h = some (.nx, [x0, x1, x2, x3, x4, x5, some d.e, x7, some p.e, some x.e, y10, y11, y12, y13], h) := by
  obtain ⟨y11, y12, y13, h1⟩ := wr_ok (fuel := fuel) hk hf hd hp hx true x0 x1 x2 x3 x4 x5 x7 x11 x12 x13 h
  obtain ⟨z11, z12, z13, h2⟩ := wr_ok (fuel := fuel) hk hf hd hp hx false x0 x1 x2 x3 x4 x5 x7 y11 y12 y13 h
  have c25 := fun h => c_opensG (fuel := fuel) (k := k) (by omega) hf hd hp (rest := [.tup (p.dn.map .int), .tup (p.ps.map .bl)]) (by simp) hx h
  rw [← Pc.e_g] at c25
  have c35 := fun h => c_sees0 (fuel := fuel) (k := k) (by omega) hd hp h
  have c34 := fun h => c_lholds (fuel := fuel) (k := k) (by omega) hp none hx h
  have cs := fun h => c_same_b (fuel := fuel) (k := k) (by omega) (x.when.val (p.view d none)) h
  have i2 : ∀ H, index x.e (.int 2) H = some x.when.e := fun H => by simp [Pr.e]
  refine ⟨some (.bl false), z11, z12, z13, ?_⟩
  generalize x.when.val (p.view d none) = B at *
  generalize (p.view d none).eS = VV at *
  generalize d.e = DD at *
  generalize p.e = PP at *
  generalize x.when.e = WW at *
  generalize x.e = XX at *
  have hfor : forL (.v 10) none 2 (exs (tabF L fuel k) fuel wR) [.bl true, .bl false] 0 [x0, x1, x2, x3, x4, x5, some DD, x7, some PP, some XX, x10, x11, x12, x13] h = some (.nx, [x0, x1, x2, x3, x4, x5, some DD, x7, some PP, some XX, some (.bl false), z11, z12, z13], h) := by
    simp [forL, okL, cur, put, h1, h2]
  simp [wP, kFor_ap, items]
  rw [hfor]
  simp [i2, c25, c35, c34, cs]
theorem ws_ok {k : Nat} (hk : 12 ≤ k) (hf : 100 ≤ fuel) {d : Dl} (hd : d.ok) {s : List Fr} {f : Fr} (hs : s.reverse[0]? = some f) (hp : f.pl.ok d) (x0 x1 x2 x3 x4 x5 x8 x9 x10 x11 x12 x13 : Option D) (h : AH) :
    ∃ y8 y9 y10 y11 y12 y13, exs (tabF L fuel k) fuel wS [x0, x1, x2, x3, x4, x5, some d.e, some (stD s), x8, x9, x10, x11, x12, x13] h = some (.nx, [x0, x1, x2, x3, x4, x5, some d.e, some (stD s), y8, y9, y10, y11, y12, y13], h) := by
  obtain ⟨fl, σ', h', hw, rfl, rfl, y9, y10, y11, y12, y13, rfl⟩ := for_all (tg := .v 9) (len := (d.prs.map Pr.e).length) (b := exs (tabF L fuel k) fuel wP) (d.prs.map Pr.e)
    (fun σ h' => h' = h ∧ ∃ y9 y10 y11 y12 y13, σ = [x0, x1, x2, x3, x4, x5, some d.e, some (stD s), some f.pl.e, y9, y10, y11, y12, y13])
    (fun fl σ h' => fl = .nx ∧ h' = h ∧ ∃ y9 y10 y11 y12 y13, σ = [x0, x1, x2, x3, x4, x5, some d.e, some (stD s), some f.pl.e, y9, y10, y11, y12, y13])
    (fun σ h' z => ⟨rfl, z⟩)
    (fun x hx σ h' ⟨e2, y9, y10, y11, y12, y13, e1⟩ => by
      subst e1; subst e2
      obtain ⟨x, hx', rfl⟩ := List.mem_map.mp hx
      obtain ⟨z10, z11, z12, z13, e⟩ := wp_ok (fuel := fuel) hk hf hd hp (hd.pr x hx') x0 x1 x2 x3 x4 x5 (some (stD s)) y10 y11 y12 y13 h'
      exact ⟨_, by simp [put], .nx, _, _, e, rfl, _, _, _, _, _, rfl⟩)
    [x0, x1, x2, x3, x4, x5, some d.e, some (stD s), some f.pl.e, x9, x10, x11, x12, x13] h ⟨rfl, _, _, _, _, _, rfl⟩
  refine ⟨some f.pl.e, y9, y10, y11, y12, y13, ?_⟩
  have i0 : ∀ H, index (stD s) (.int 0) H = some f.e := fun H => st_at s 0 f hs H
  have i1 := Fr.i1 f
  have i8 : ∀ H, index d.e (.int 8) H = some (.tup (d.prs.map Pr.e)) := fun H => by simp [Dl.e]
  have hit : ∀ H, items (.tup (d.prs.map Pr.e)) H = some (d.prs.map Pr.e) := fun H => rfl
  generalize d.e = DD at *
  generalize f.pl.e = PP at *
  generalize stD s = ST at *
  generalize d.prs.map Pr.e = PE at *
  simp [wS, i0, i1, i8, hit, kFor_ap]
  rw [hw]
  simp
end PyD.K16

namespace PyD.K16
open PyD
variable {fuel : Nat}
theorem ne_ints (l : List Int) (h : AH) : cmpop .ne (.tup (l.map .int)) (.tup (l.map .int)) h = some false := by
  have h1 : eqDs (l.map D.int) (l.map D.int) = true := by
    induction l with
    | nil => rfl
    | cons x l ih => simp only [List.map_cons, eqDs, ih, Bool.and_true]; simp [eqD, beqD]
  have h2 : ∀ l : List Int, depDs (l.map D.int) = 0 := fun l => by
    induction l with
    | nil => rfl
    | cons x l ih => simp only [List.map_cons, depDs, ih]; rfl
  have h3 : eqO (.tup (l.map .int)) (.tup (l.map .int)) h = some true := by
    unfold eqO
    rw [if_pos]
    · show some (eqDs (l.map D.int) (l.map D.int)) = _
      rw [h1]
    · simp [rsv, depD, h2, closeds_map D.int (fun _ => rfl)]
  show (eqO _ _ h).map not = _
  rw [h3]; rfl
theorem wt_ok {k : Nat} (hk : 12 ≤ k) (hf : 100 ≤ fuel) {bk : List Dl} (hb : Bok bk) {d : Dl} (hd : bk[bk.length - 1]? = some d) {rws : List Rw} {SS : List (List Fr)} (hr : Run bk rws SS) (x0 x1 x2 x4 x6 x7 x8 x9 x10 x11 x12 x13 : Option D) (h : AH) :
    ∃ y6 y7 y8 y9 y10 y11 y12 y13, exs (tabF L fuel k) fuel wT [x0, x1, x2, some (bkD bk), x4, some (.lst (SS.map stD)), x6, x7, x8, x9, x10, x11, x12, x13] h = some (.nx, [x0, x1, x2, some (bkD bk), x4, some (.lst (SS.map stD)), y6, y7, y8, y9, y10, y11, y12, y13], h) := by
  have hdo := hb.ok _ (List.mem_of_getElem? hd)
  obtain ⟨fl, σ', h', hw, rfl, rfl, y7, y8, y9, y10, y11, y12, y13, rfl⟩ := for_ix (tg := .v 7) (len := (SS.map stD).length) (b := exs (tabF L fuel k) fuel wS) (SS.map stD)
    (fun m σ h' => h' = h ∧ ∃ y7 y8 y9 y10 y11 y12 y13, σ = [x0, x1, x2, some (bkD bk), x4, some (.lst (SS.map stD)), some d.e, y7, y8, y9, y10, y11, y12, y13])
    (fun fl σ h' => fl = .nx ∧ h' = h ∧ ∃ y7 y8 y9 y10 y11 y12 y13, σ = [x0, x1, x2, some (bkD bk), x4, some (.lst (SS.map stD)), some d.e, y7, y8, y9, y10, y11, y12, y13])
    (fun σ h' z => ⟨rfl, z⟩)
    (fun m x σ h' hx ⟨e2, y7, y8, y9, y10, y11, y12, y13, e1⟩ => by
      subst e1; subst e2
      rw [List.getElem?_map] at hx
      cases hs : SS[m]? with
      | none => simp [hs] at hx
      | some s =>
        simp only [hs, Option.map_some, Option.some.injEq] at hx
        subst hx
        obtain ⟨f, hf1, hf2, hf3⟩ := hr.bot hb hd hs
        rw [← hf2] at hf3
        obtain ⟨z8, z9, z10, z11, z12, z13, e⟩ := ws_ok (fuel := fuel) hk hf hdo hf1 hf3 x0 x1 x2 (some (bkD bk)) x4 (some (.lst (SS.map stD))) y8 y9 y10 y11 y12 y13 h'
        exact ⟨_, by simp [put], .nx, _, _, e, rfl, _, _, _, _, _, _, _, rfl⟩)
    [x0, x1, x2, some (bkD bk), x4, some (.lst (SS.map stD)), some d.e, x7, x8, x9, x10, x11, x12, x13] h ⟨rfl, _, _, _, _, _, _, _, rfl⟩
  refine ⟨some d.e, y7, y8, y9, y10, y11, y12, y13, ?_⟩
  have i1 := bk_last hb.ne hd
  obtain ⟨z, ez, hzc, hz1⟩ := known_run (fuel := fuel) (k := k) (by omega) hdo
  have c28 := fun h => callV (h := h) (by simp) ez hzc
  have hit : ∀ H, items (.lst (SS.map stD)) H = some (SS.map stD) := fun H => rfl
  have j0 : ∀ H, index (.lst (SS.map stD)) (.int 0) H = some (stD (firstS bk)) := fun H => index_at (n := 0) rfl (by rw [List.getElem?_map, hr.hd]; rfl)
  obtain ⟨d', e1, e2, e3⟩ := firstS_ok hb
  rw [hd] at e2
  cases e2
  have j1 : ∀ H, index (stD (firstS bk)) (.int 0) H = some (Fr.e ⟨bk.length - 1, d.first, -1⟩) := fun H => st_at _ 0 _ (by rw [e1]; rfl) H
  have j2 : ∀ H, index (Fr.e ⟨bk.length - 1, d.first, -1⟩) (.int 1) H = some d.first.e := fun H => Fr.i1 _ H
  have j3 : ∀ H, index d.first.e (.int 1) H = some (.tup (d.first.cs.map .int)) := fun H => by simp [Pc.e]
  have hne := ne_ints d.first.cs
  generalize D.tup (d.first.cs.map .int) = CS at *
  generalize d.first.e = PP at *
  generalize Fr.e ⟨bk.length - 1, d.first, -1⟩ = FF at *
  generalize stD (firstS bk) = SF at *
  generalize SS.map stD = SD at *
  generalize bkD bk = BB at *
  generalize d.e = DD at *
  simp [wT, i1, hit, kFor_ap]
  rw [hw]
  simp [c28, hz1, j0, j1, j2, j3, hne]
theorem wm_ok {k : Nat} (hk : 18 ≤ k) (hf : 100 ≤ fuel) {bk : List Dl} (hb : Bok bk) {d : Dl} (hd : bk[bk.length - 1]? = some d) (hpr : d.prs.length ≤ 10) (s : Bx) (x0 x1 x4 x5 x6 x7 x8 x9 x10 x11 x12 x13 : Option D) (h : AH) :
    ∃ y4 y5 y6 y7 y8 y9 y10 y11 y12 y13 h', exs (tabF L fuel k) fuel wM [x0, x1, some (.ref h.length), some (bkD bk), x4, x5, x6, x7, x8, x9, x10, x11, x12, x13] (h ++ [.lst s.ds]) = some (.nx, [x0, x1, some (.ref h.length), some (bkD bk), y4, y5, y6, y7, y8, y9, y10, y11, y12, y13], h') := by
  have t26 := c_tkE (fuel := fuel) (k := k) (by omega) 26 (by omega) (by omega) s h
  obtain ⟨u, s1, e1, hu⟩ := tk_nat s 26 (by omega)
  rw [e1] at t26
  obtain ⟨rws, SS, s2, e58, hr, hrl⟩ := run_run (fuel := fuel) (k := k) (by omega) hb u (by omega) s1
  have c58 := c_bxE e58 (by simp) (by simp) h
  have e27 := broken_run (fuel := fuel) (k := k) (by omega) hf hb hd hpr hr (by omega)
  have e59 := lbroken_run (fuel := fuel) (k := k) (by omega) hb hd hr
  generalize isort (outF d (plN SS) (rsn rws SS) (rws.length + 1)) = KS at e27 e59
  have hcl : closed (.tup (KS.map .int)) = true := by simp [closeds_map D.int (fun _ => rfl)]
  have c27 := callV (h := h ++ [.lst s2.ds]) (by simp) e27 hcl
  have c59 := callV (h := h ++ [.lst s2.ds]) (by simp) e59 hcl
  have hkD : keyOk (.tup (KS.map .int)) = true ∧ depD (.tup (KS.map D.int)) < 18 := by
    have a1 := keyOks_map D.int (fun r => rfl) KS
    have a2 := depDs_map D.int 0 (fun r => Nat.le_refl _) KS
    exact ⟨a1, by simp only [depD]; omega⟩
  have c32 := c_refl (fuel := fuel) (k := k) hcl hkD.1 (by have := hkD.2; omega) (h ++ [.lst s2.ds])
  obtain ⟨y6, y7, y8, y9, y10, y11, y12, y13, et⟩ := wt_ok (fuel := fuel) (k := k) (by omega) hf hb hd hr x0 x1 (some (.ref h.length)) (some (.lst (rws.map Rw.e))) x6 x7 x8 x9 x10 x11 x12 x13 (h ++ [.lst s2.ds])
  refine ⟨some (.lst (rws.map Rw.e)), some (.lst (SS.map stD)), y6, y7, y8, y9, y10, y11, y12, y13, h ++ [.lst s2.ds], ?_⟩
  generalize rws.map Rw.e = RW at *
  generalize SS.map stD = SD at *
  have h1 : ∀ H, bltf .tuple [.lst RW] H = some (.tup RW) := fun H => rfl
  generalize D.tup (KS.map .int) = KK at *
  simp only [wM, exs_cons, ex_asg, ev_call, evs_cons, evs_nil, ev_var, ev_int, List.getElem?_cons_zero, List.getElem?_cons_succ, kvar_ap, Option.bind_some, kEs_ap, kEs2_ap, kCall_ap, t26, c58, kAsg_ap, put, puts, kAsg2_ap, List.set_cons_succ, List.set_cons_zero, kSeq_nx, ex_ite, tst_eq, ev_not, ev_blt, kBlt_ap, h1, kOut_eq, c27, c59, c32]
  simp
  exact et
theorem wk_ok {k : Nat} (hk : 21 ≤ k) (hf : 700 ≤ fuel) (ns : List Int) (j : Nat) (hj : j < 100) (x2 x3 x4 x5 x6 x7 x8 x9 x10 x11 x12 x13 : Option D) (h : AH) :
    ∃ y2 y3 y4 y5 y6 y7 y8 y9 y10 y11 y12 y13 h', exs (tabF L fuel k) fuel wB [some (.rol (ns.map .int)), some (.int j), x2, x3, x4, x5, x6, x7, x8, x9, x10, x11, x12, x13] h = some (.nx, [some (.rol (ns.map .int)), some (.int j), y2, y3, y4, y5, y6, y7, y8, y9, y10, y11, y12, y13], h') := by
  obtain ⟨k, rfl⟩ : ∃ m, k = m + 1 := ⟨k - 1, by omega⟩
  obtain ⟨s, hs⟩ := box_ok (fuel := fuel) k ns j hj
  have c29 : callC (tabF L fuel (k + 1) 29) [.rol (ns.map .int), .int (j : Nat)] h = some (.ref h.length, h ++ [.lst s.ds]) := callM (by simp [closeds_map D.int (fun _ => rfl)]) hs (by simp)
  obtain ⟨bk, d, s1, e53, hb, hd, hpr⟩ := book_run (fuel := fuel) (k := k + 1) (by omega) hf s
  have c53 : callC (tabF L fuel (k + 1) 53) [.ref h.length, .int 160] (h ++ [.lst s.ds]) = some (bkD bk, h ++ [.lst s1.ds]) := c_bxE e53 rfl (by simp) h
  obtain ⟨y4, y5, y6, y7, y8, y9, y10, y11, y12, y13, h', em⟩ := wm_ok (fuel := fuel) (k := k + 1) (by omega) (by omega) hb hd hpr s1 (some (.rol (ns.map .int))) (some (.int j)) x4 x5 x6 x7 x8 x9 x10 x11 x12 x13 h
  refine ⟨some (.ref h.length), some (bkD bk), y4, y5, y6, y7, y8, y9, y10, y11, y12, y13, h', ?_⟩
  simp only [wB, exs_cons, ex_set, ev_call, evs_cons, evs_nil, ev_var, ev_int, List.getElem?_cons_zero, List.getElem?_cons_succ, kvar_ap, Option.bind_some, kEs_ap, kEs2_ap, kCall_ap, c29, c53, kSet_ap, List.set_cons_succ, List.set_cons_zero, kSeq_nx]
  exact em
theorem law_true (k fuel : Nat) (hk : 24 ≤ k) (hf : 700 ≤ fuel) (ns : List Int) : ∃ h', tabF L fuel k 60 [.rol (ns.map .int)] [] = some (.bl true, h') := by
  obtain ⟨k, rfl⟩ : ∃ m, k = m + 1 := ⟨k - 1, by omega⟩
  refine ⟨[], ?_⟩
  rw [tab_step (d := d_law) rfl]
  show (exs (tabF L fuel k) fuel b_law [some (.rol (ns.map .int)), none, none, none, none, none, none, none, none, none, none, none, none, none] []).bind (kRun false 0) = _
  rw [b_law_eq]
  obtain ⟨N, hN, hX⟩ : ∃ N : Nat, N ≤ 8 ∧ (if (if (7 : Int) < (ns.length : Nat) then (7 : Int) else (ns.length : Nat)) > 3 then (if (7 : Int) < (ns.length : Nat) then (7 : Int) else (ns.length : Nat)) else 3) = (N : Nat) := by
    refine ⟨(if (if (7 : Int) < (ns.length : Nat) then (7 : Int) else (ns.length : Nat)) > 3 then (if (7 : Int) < (ns.length : Nat) then (7 : Int) else (ns.length : Nat)) else 3).toNat, ?_, ?_⟩
    · split <;> split <;> omega
    · split <;> split <;> omega
  have hbm : bltf .max [.int 3, .int (if (7 : Int) < (ns.length : Nat) then (7 : Int) else (ns.length : Nat))] [] = some (.int (N : Nat)) := by rw [blt_max, hX]
  have hbn : bltf .min [.int (ns.length : Nat), .int 7] [] = some (.int (if (7 : Int) < (ns.length : Nat) then (7 : Int) else (ns.length : Nat))) := rfl
  have hrng : rng 0 (N : Nat) = some ((List.range N).map fun i => .int (i : Nat)) := rng_n (by omega)
  obtain ⟨f, σ', h', hw, rfl, y1, y2, y3, y4, y5, y6, y7, y8, y9, y10, y11, y12, y13, rfl⟩ := for_all (tg := .v 1) (len := N) (b := exs (tabF L fuel k) fuel wB) ((List.range N).map fun i => D.int (i : Nat))
    (fun σ h => ∃ y1 y2 y3 y4 y5 y6 y7 y8 y9 y10 y11 y12 y13, σ = [some (.rol (ns.map .int)), y1, y2, y3, y4, y5, y6, y7, y8, y9, y10, y11, y12, y13])
    (fun f σ h => f = .nx ∧ ∃ y1 y2 y3 y4 y5 y6 y7 y8 y9 y10 y11 y12 y13, σ = [some (.rol (ns.map .int)), y1, y2, y3, y4, y5, y6, y7, y8, y9, y10, y11, y12, y13])
    (fun σ h z => ⟨rfl, z⟩)
    (fun x hx σ h ⟨y1, y2, y3, y4, y5, y6, y7, y8, y9, y10, y11, y12, y13, e1⟩ => by
      subst e1
      obtain ⟨j, hj, rfl⟩ := List.mem_map.mp hx
      have hj := List.mem_range.mp hj
      obtain ⟨z2, z3, z4, z5, z6, z7, z8, z9, z10, z11, z12, z13, h', e⟩ := wk_ok (fuel := fuel) (k := k) (by omega) hf ns j (by omega) y2 y3 y4 y5 y6 y7 y8 y9 y10 y11 y12 y13 h
      exact ⟨_, rfl, .nx, _, h', e, _, _, _, _, _, _, _, _, _, _, _, _, _, rfl⟩)
    [some (.rol (ns.map .int)), none, none, none, none, none, none, none, none, none, none, none, none, none] [] ⟨_, _, _, _, _, _, _, _, _, _, _, _, _, rfl⟩
  simp [hbn, hbm, hrng, kFor_ap]
  rw [hw]
  simp
  exact fin_v rfl
end PyD.K16

namespace PyD.K16
open PySem PySem.Spec PyProof.Rows L2 PyD
def cst : List (PySem.Str × D) := [("MIXED", g_MIXED), ("JOINED", g_JOINED), ("NOBODY", g_NOBODY), ("MOST_OUTCOME", g_MOST_OUTCOME)]
def topS (i : Nat) : Stmt := PySem.Challenge.pw_evenifothers_k16_what_is_broken.main.body.getD i (.Pass ⟨0, 0, 0, 0⟩)
abbrev s_is_int : Stmt := topS 1
theorem sc_is_int : FnScope d_is_int.NS (["value"] : List Str) (defScope s_is_int) := ⟨rfl, rfl, rfl, by decide +kernel, by decide +kernel, by decide +kernel, by decide +kernel⟩
theorem ck_is_int : okDef L cst d_is_int s_is_int = true := by decide +kernel
abbrev s_is_number : Stmt := topS 2
theorem sc_is_number : FnScope d_is_number.NS (["value", "least", "most"] : List Str) (defScope s_is_number) := ⟨rfl, rfl, rfl, by decide +kernel, by decide +kernel, by decide +kernel, by decide +kernel⟩
theorem ck_is_number : okDef L cst d_is_number s_is_number = true := by decide +kernel
abbrev s_is_tuple : Stmt := topS 3
theorem sc_is_tuple : FnScope d_is_tuple.NS (["value", "many"] : List Str) (defScope s_is_tuple) := ⟨rfl, rfl, rfl, by decide +kernel, by decide +kernel, by decide +kernel, by decide +kernel⟩
theorem ck_is_tuple : okDef L cst d_is_tuple s_is_tuple = true := by decide +kernel
abbrev s_laid_out : Stmt := topS 7
theorem sc_laid_out : FnScope d_laid_out.NS (["tree", "kinds"] : List Str) (defScope s_laid_out) := ⟨rfl, rfl, rfl, by decide +kernel, by decide +kernel, by decide +kernel, by decide +kernel⟩
theorem ck_laid_out : okDef L cst d_laid_out s_laid_out = true := by decide +kernel
abbrev s_leaf_worth : Stmt := topS 8
theorem sc_leaf_worth : FnScope d_leaf_worth.NS (["leaf", "sight"] : List Str) (defScope s_leaf_worth) := ⟨rfl, rfl, rfl, by decide +kernel, by decide +kernel, by decide +kernel, by decide +kernel⟩
theorem ck_leaf_worth : okDef L cst d_leaf_worth s_leaf_worth = true := by decide +kernel
abbrev s_mixed_worth : Stmt := topS 9
theorem sc_mixed_worth : FnScope d_mixed_worth.NS (["kind", "one", "two"] : List Str) (defScope s_mixed_worth) := ⟨rfl, rfl, rfl, by decide +kernel, by decide +kernel, by decide +kernel, by decide +kernel⟩
theorem ck_mixed_worth : okDef L cst d_mixed_worth s_mixed_worth = true := by decide +kernel
abbrev s_worth_of : Stmt := topS 10
theorem sc_worth_of : FnScope d_worth_of.NS (["tree", "sight"] : List Str) (defScope s_worth_of) := ⟨rfl, rfl, rfl, by decide +kernel, by decide +kernel, by decide +kernel, by decide +kernel⟩
theorem ck_worth_of : okDef L cst d_worth_of s_worth_of = true := by decide +kernel
abbrev s_compares : Stmt := topS 11
theorem sc_compares : FnScope d_compares.NS (["leaf", "sight"] : List Str) (defScope s_compares) := ⟨rfl, rfl, rfl, by decide +kernel, by decide +kernel, by decide +kernel, by decide +kernel⟩
theorem ck_compares : okDef L cst d_compares s_compares = true := by decide +kernel
abbrev s_holds : Stmt := topS 12
theorem sc_holds : FnScope d_holds.NS (["condition", "sight"] : List Str) (defScope s_holds) := ⟨rfl, rfl, rfl, by decide +kernel, by decide +kernel, by decide +kernel, by decide +kernel⟩
theorem ck_holds : okDef L cst d_holds s_holds = true := by decide +kernel
abbrev s_begin_place : Stmt := topS 16
theorem sc_begin_place : FnScope d_begin_place.NS (["deal"] : List Str) (defScope s_begin_place) := ⟨rfl, rfl, rfl, by decide +kernel, by decide +kernel, by decide +kernel, by decide +kernel⟩
theorem ck_begin_place : okDef L cst d_begin_place s_begin_place = true := by decide +kernel
abbrev s_is_over : Stmt := topS 17
theorem sc_is_over : FnScope d_is_over.NS (["deal", "place"] : List Str) (defScope s_is_over) := ⟨rfl, rfl, rfl, by decide +kernel, by decide +kernel, by decide +kernel, by decide +kernel⟩
theorem ck_is_over : okDef L cst d_is_over s_is_over = true := by decide +kernel
abbrev s_seen_seels : Stmt := topS 18
theorem sc_seen_seels : FnScope d_seen_seels.NS (["deal", "se\x61ls", "role"] : List Str) (defScope s_seen_seels) := ⟨rfl, rfl, rfl, by decide +kernel, by decide +kernel, by decide +kernel, by decide +kernel⟩
theorem ck_seen_seels : okDef L cst d_seen_seels s_seen_seels = true := by decide +kernel
abbrev s_sight_of : Stmt := topS 19
theorem sc_sight_of : FnScope d_sight_of.NS (["deal", "place", "role"] : List Str) (defScope s_sight_of) := ⟨rfl, rfl, rfl, by decide +kernel, by decide +kernel, by decide +kernel, by decide +kernel⟩
theorem ck_sight_of : okDef L cst d_sight_of s_sight_of = true := by decide +kernel
abbrev s_outcome_of : Stmt := topS 20
theorem sc_outcome_of : FnScope d_outcome_of.NS (["deal", "place"] : List Str) (defScope s_outcome_of) := ⟨rfl, rfl, rfl, by decide +kernel, by decide +kernel, by decide +kernel, by decide +kernel⟩
theorem ck_outcome_of : okDef L cst d_outcome_of s_outcome_of = true := by decide +kernel
abbrev s_stepped : Stmt := topS 21
theorem sc_stepped : FnScope d_stepped.NS (["deal", "counters", "steps", "sight"] : List Str) (defScope s_stepped) := ⟨rfl, rfl, rfl, by decide +kernel, by decide +kernel, by decide +kernel, by decide +kernel⟩
theorem ck_stepped : okDef L cst d_stepped s_stepped = true := by decide +kernel
abbrev s_seels_behind : Stmt := topS 22
theorem sc_seels_behind : FnScope d_seels_behind.NS (["deal", "se\x61ls", "kind", "worth"] : List Str) (defScope s_seels_behind) := ⟨rfl, rfl, rfl, by decide +kernel, by decide +kernel, by decide +kernel, by decide +kernel⟩
theorem ck_seels_behind : okDef L cst d_seels_behind s_seels_behind = true := by decide +kernel
abbrev s_done_once : Stmt := topS 23
theorem sc_done_once : FnScope d_done_once.NS (["done", "spot"] : List Str) (defScope s_done_once) := ⟨rfl, rfl, rfl, by decide +kernel, by decide +kernel, by decide +kernel, by decide +kernel⟩
theorem ck_done_once : okDef L cst d_done_once s_done_once = true := by decide +kernel
abbrev s_deed_behind : Stmt := topS 24
theorem sc_deed_behind : FnScope d_deed_behind.NS (["deal", "place", "number", "worth"] : List Str) (defScope s_deed_behind) := ⟨rfl, rfl, rfl, by decide +kernel, by decide +kernel, by decide +kernel, by decide +kernel⟩
theorem ck_deed_behind : okDef L cst d_deed_behind s_deed_behind = true := by decide +kernel
abbrev s_call_behind : Stmt := topS 25
theorem sc_call_behind : FnScope d_call_behind.NS (["deal", "place", "number"] : List Str) (defScope s_call_behind) := ⟨rfl, rfl, rfl, by decide +kernel, by decide +kernel, by decide +kernel, by decide +kernel⟩
theorem ck_call_behind : okDef L cst d_call_behind s_call_behind = true := by decide +kernel
abbrev s_pass_behind : Stmt := topS 26
theorem sc_pass_behind : FnScope d_pass_behind.NS (["deal", "place", "role"] : List Str) (defScope s_pass_behind) := ⟨rfl, rfl, rfl, by decide +kernel, by decide +kernel, by decide +kernel, by decide +kernel⟩
theorem ck_pass_behind : okDef L cst d_pass_behind s_pass_behind = true := by decide +kernel
abbrev s_dawn_behind : Stmt := topS 27
theorem sc_dawn_behind : FnScope d_dawn_behind.NS (["deal", "place"] : List Str) (defScope s_dawn_behind) := ⟨rfl, rfl, rfl, by decide +kernel, by decide +kernel, by decide +kernel, by decide +kernel⟩
theorem ck_dawn_behind : okDef L cst d_dawn_behind s_dawn_behind = true := by decide +kernel
abbrev s_told_outcome : Stmt := topS 28
theorem sc_told_outcome : FnScope d_told_outcome.NS (["deal", "place", "number", "outcome"] : List Str) (defScope s_told_outcome) := ⟨rfl, rfl, rfl, by decide +kernel, by decide +kernel, by decide +kernel, by decide +kernel⟩
theorem ck_told_outcome : okDef L cst d_told_outcome s_told_outcome = true := by decide +kernel
abbrev s_begin_state : Stmt := topS 29
theorem sc_begin_state : FnScope d_begin_state.NS (["book"] : List Str) (defScope s_begin_state) := ⟨rfl, rfl, rfl, by decide +kernel, by decide +kernel, by decide +kernel, by decide +kernel⟩
theorem ck_begin_state : okDef L cst d_begin_state s_begin_state = true := by decide +kernel
abbrev s_place_behind : Stmt := topS 30
theorem sc_place_behind : FnScope d_place_behind.NS (["deal", "place", "row"] : List Str) (defScope s_place_behind) := ⟨rfl, rfl, rfl, by decide +kernel, by decide +kernel, by decide +kernel, by decide +kernel⟩
theorem ck_place_behind : okDef L cst d_place_behind s_place_behind = true := by decide +kernel
abbrev s_step_row : Stmt := topS 31
theorem sc_step_row : FnScope d_step_row.NS (["book", "state", "row"] : List Str) (defScope s_step_row) := ⟨rfl, rfl, rfl, by decide +kernel, by decide +kernel, by decide +kernel, by decide +kernel⟩
theorem ck_step_row : okDef L cst d_step_row s_step_row = true := by decide +kernel
abbrev s_open_holds : Stmt := topS 32
theorem sc_open_holds : FnScope d_open_holds.NS (["deal", "place", "condition"] : List Str) (defScope s_open_holds) := ⟨rfl, rfl, rfl, by decide +kernel, by decide +kernel, by decide +kernel, by decide +kernel⟩
theorem ck_open_holds : okDef L cst d_open_holds s_open_holds = true := by decide +kernel
abbrev s_is_kept : Stmt := topS 33
theorem sc_is_kept : FnScope d_is_kept.NS (["deal", "promise", "place", "is_dawn"] : List Str) (defScope s_is_kept) := ⟨rfl, rfl, rfl, by decide +kernel, by decide +kernel, by decide +kernel, by decide +kernel⟩
theorem ck_is_kept : okDef L cst d_is_kept s_is_kept = true := by decide +kernel
abbrev s_broken : Stmt := topS 34
theorem sc_broken : FnScope d_broken.NS (["book", "rows"] : List Str) (defScope s_broken) := ⟨rfl, rfl, rfl, by decide +kernel, by decide +kernel, by decide +kernel, by decide +kernel⟩
theorem ck_broken : okDef L cst d_broken s_broken = true := by decide +kernel
abbrev s_known_begin : Stmt := topS 36
theorem sc_known_begin : FnScope d_known_begin.NS (["deal", "roles"] : List Str) (defScope s_known_begin) := ⟨rfl, rfl, rfl, by decide +kernel, by decide +kernel, by decide +kernel, by decide +kernel⟩
theorem ck_known_begin : okDef L cst d_known_begin s_known_begin = true := by decide +kernel
abbrev s__law_box : Stmt := topS 38
theorem sc__law_box : FnScope d__law_box.NS (["script", "k"] : List Str) (defScope s__law_box) := ⟨rfl, rfl, rfl, by decide +kernel, by decide +kernel, by decide +kernel, by decide +kernel⟩
theorem ck__law_box : okDef L cst d__law_box s__law_box = true := by decide +kernel
abbrev s__law_take : Stmt := topS 39
theorem sc__law_take : FnScope d__law_take.NS (["box", "many"] : List Str) (defScope s__law_take) := ⟨rfl, rfl, rfl, by decide +kernel, by decide +kernel, by decide +kernel, by decide +kernel⟩
theorem ck__law_take : okDef L cst d__law_take s__law_take = true := by decide +kernel
abbrev s__law_pick : Stmt := topS 40
theorem sc__law_pick : FnScope d__law_pick.NS (["box", "some"] : List Str) (defScope s__law_pick) := ⟨rfl, rfl, rfl, by decide +kernel, by decide +kernel, by decide +kernel, by decide +kernel⟩
theorem ck__law_pick : okDef L cst d__law_pick s__law_pick = true := by decide +kernel
abbrev s__law_same : Stmt := topS 41
theorem sc__law_same : FnScope d__law_same.NS (["told", "due"] : List Str) (defScope s__law_same) := ⟨rfl, rfl, rfl, by decide +kernel, by decide +kernel, by decide +kernel, by decide +kernel⟩
theorem ck__law_same : okDef L cst d__law_same s__law_same = true := by decide +kernel
abbrev s__law_sum : Stmt := topS 42
theorem sc__law_sum : FnScope d__law_sum.NS (["told", "place", "sees"] : List Str) (defScope s__law_sum) := ⟨rfl, rfl, rfl, by decide +kernel, by decide +kernel, by decide +kernel, by decide +kernel⟩
theorem ck__law_sum : okDef L cst d__law_sum s__law_sum = true := by decide +kernel
abbrev s__law_holds : Stmt := topS 43
theorem sc__law_holds : FnScope d__law_holds.NS (["told", "place", "sees"] : List Str) (defScope s__law_holds) := ⟨rfl, rfl, rfl, by decide +kernel, by decide +kernel, by decide +kernel, by decide +kernel⟩
theorem ck__law_holds : okDef L cst d__law_holds s__law_holds = true := by decide +kernel
abbrev s__law_sees : Stmt := topS 44
theorem sc__law_sees : FnScope d__law_sees.NS (["deal", "place", "role"] : List Str) (defScope s__law_sees) := ⟨rfl, rfl, rfl, by decide +kernel, by decide +kernel, by decide +kernel, by decide +kernel⟩
theorem ck__law_sees : okDef L cst d__law_sees s__law_sees = true := by decide +kernel
abbrev s__law_first : Stmt := topS 45
theorem sc__law_first : FnScope d__law_first.NS (["deal"] : List Str) (defScope s__law_first) := ⟨rfl, rfl, rfl, by decide +kernel, by decide +kernel, by decide +kernel, by decide +kernel⟩
theorem ck__law_first : okDef L cst d__law_first s__law_first = true := by decide +kernel
abbrev s__law_stepped : Stmt := topS 46
theorem sc__law_stepped : FnScope d__law_stepped.NS (["deal", "place", "role", "steps"] : List Str) (defScope s__law_stepped) := ⟨rfl, rfl, rfl, by decide +kernel, by decide +kernel, by decide +kernel, by decide +kernel⟩
theorem ck__law_stepped : okDef L cst d__law_stepped s__law_stepped = true := by decide +kernel
abbrev s__law_done : Stmt := topS 47
theorem sc__law_done : FnScope d__law_done.NS (["deal", "place", "number", "worth"] : List Str) (defScope s__law_done) := ⟨rfl, rfl, rfl, by decide +kernel, by decide +kernel, by decide +kernel, by decide +kernel⟩
theorem ck__law_done : okDef L cst d__law_done s__law_done = true := by decide +kernel
abbrev s__law_dawn : Stmt := topS 48
theorem sc__law_dawn : FnScope d__law_dawn.NS (["place"] : List Str) (defScope s__law_dawn) := ⟨rfl, rfl, rfl, by decide +kernel, by decide +kernel, by decide +kernel, by decide +kernel⟩
theorem ck__law_dawn : okDef L cst d__law_dawn s__law_dawn = true := by decide +kernel
abbrev s__law_worths : Stmt := topS 49
theorem sc__law_worths : FnScope d__law_worths.NS (["deal", "place", "number"] : List Str) (defScope s__law_worths) := ⟨rfl, rfl, rfl, by decide +kernel, by decide +kernel, by decide +kernel, by decide +kernel⟩
theorem ck__law_worths : okDef L cst d__law_worths s__law_worths = true := by decide +kernel
abbrev s__law_rows : Stmt := topS 50
theorem sc__law_rows : FnScope d__law_rows.NS (["deal", "place"] : List Str) (defScope s__law_rows) := ⟨rfl, rfl, rfl, by decide +kernel, by decide +kernel, by decide +kernel, by decide +kernel⟩
theorem ck__law_rows : okDef L cst d__law_rows s__law_rows = true := by decide +kernel
abbrev s__law_is_small : Stmt := topS 51
theorem sc__law_is_small : FnScope d__law_is_small.NS (["deal", "most"] : List Str) (defScope s__law_is_small) := ⟨rfl, rfl, rfl, by decide +kernel, by decide +kernel, by decide +kernel, by decide +kernel⟩
theorem ck__law_is_small : okDef L cst d__law_is_small s__law_is_small = true := by decide +kernel
abbrev s__law_number : Stmt := topS 52
theorem sc__law_number : FnScope d__law_number.NS (["box", "deal"] : List Str) (defScope s__law_number) := ⟨rfl, rfl, rfl, by decide +kernel, by decide +kernel, by decide +kernel, by decide +kernel⟩
theorem ck__law_number : okDef L cst d__law_number s__law_number = true := by decide +kernel
abbrev s__law_when : Stmt := topS 53
theorem sc__law_when : FnScope d__law_when.NS (["box", "deal", "deep"] : List Str) (defScope s__law_when) := ⟨rfl, rfl, rfl, by decide +kernel, by decide +kernel, by decide +kernel, by decide +kernel⟩
theorem ck__law_when : okDef L cst d__law_when s__law_when = true := by decide +kernel
abbrev s__law_any_deal : Stmt := topS 54
theorem sc__law_any_deal : FnScope d__law_any_deal.NS (["box", "name", "roles"] : List Str) (defScope s__law_any_deal) := ⟨rfl, rfl, rfl, by decide +kernel, by decide +kernel, by decide +kernel, by decide +kernel⟩
theorem ck__law_any_deal : okDef L cst d__law_any_deal s__law_any_deal = true := by decide +kernel
abbrev s__law_promise : Stmt := topS 55
theorem sc__law_promise : FnScope d__law_promise.NS (["box", "deal", "role"] : List Str) (defScope s__law_promise) := ⟨rfl, rfl, rfl, by decide +kernel, by decide +kernel, by decide +kernel, by decide +kernel⟩
theorem ck__law_promise : okDef L cst d__law_promise s__law_promise = true := by decide +kernel
abbrev s__law_swap : Stmt := topS 56
theorem sc__law_swap : FnScope d__law_swap.NS ([] : List Str) (defScope s__law_swap) := ⟨rfl, rfl, rfl, by decide +kernel, by decide +kernel, by decide +kernel, by decide +kernel⟩
theorem ck__law_swap : okDef L cst d__law_swap s__law_swap = true := by decide +kernel
abbrev s__law_deal : Stmt := topS 57
theorem sc__law_deal : FnScope d__law_deal.NS (["box", "most"] : List Str) (defScope s__law_deal) := ⟨rfl, rfl, rfl, by decide +kernel, by decide +kernel, by decide +kernel, by decide +kernel⟩
theorem ck__law_deal : okDef L cst d__law_deal s__law_deal = true := by decide +kernel
abbrev s__law_caller : Stmt := topS 58
theorem sc__law_caller : FnScope d__law_caller.NS (["box", "most", "number", "many", "name"] : List Str) (defScope s__law_caller) := ⟨rfl, rfl, rfl, by decide +kernel, by decide +kernel, by decide +kernel, by decide +kernel⟩
theorem ck__law_caller : okDef L cst d__law_caller s__law_caller = true := by decide +kernel
abbrev s__law_with_call : Stmt := topS 59
theorem sc__law_with_call : FnScope d__law_with_call.NS (["box", "most"] : List Str) (defScope s__law_with_call) := ⟨rfl, rfl, rfl, by decide +kernel, by decide +kernel, by decide +kernel, by decide +kernel⟩
theorem ck__law_with_call : okDef L cst d__law_with_call s__law_with_call = true := by decide +kernel
abbrev s__law_breaks : Stmt := topS 60
theorem sc__law_breaks : FnScope d__law_breaks.NS (["deal", "promise", "place", "risen"] : List Str) (defScope s__law_breaks) := ⟨rfl, rfl, rfl, by decide +kernel, by decide +kernel, by decide +kernel, by decide +kernel⟩
theorem ck__law_breaks : okDef L cst d__law_breaks s__law_breaks = true := by decide +kernel
abbrev s__law_hidden : Stmt := topS 61
theorem sc__law_hidden : FnScope d__law_hidden.NS (["deal", "lot", "place"] : List Str) (defScope s__law_hidden) := ⟨rfl, rfl, rfl, by decide +kernel, by decide +kernel, by decide +kernel, by decide +kernel⟩
theorem ck__law_hidden : okDef L cst d__law_hidden s__law_hidden = true := by decide +kernel
abbrev s__law_book : Stmt := topS 62
theorem sc__law_book : FnScope d__law_book.NS (["box", "most"] : List Str) (defScope s__law_book) := ⟨rfl, rfl, rfl, by decide +kernel, by decide +kernel, by decide +kernel, by decide +kernel⟩
theorem ck__law_book : okDef L cst d__law_book s__law_book = true := by decide +kernel
abbrev s__law_start : Stmt := topS 63
theorem sc__law_start : FnScope d__law_start.NS (["book"] : List Str) (defScope s__law_start) := ⟨rfl, rfl, rfl, by decide +kernel, by decide +kernel, by decide +kernel, by decide +kernel⟩
theorem ck__law_start : okDef L cst d__law_start s__law_start = true := by decide +kernel
abbrev s__law_outcome : Stmt := topS 64
theorem sc__law_outcome : FnScope d__law_outcome.NS (["deal", "place"] : List Str) (defScope s__law_outcome) := ⟨rfl, rfl, rfl, by decide +kernel, by decide +kernel, by decide +kernel, by decide +kernel⟩
theorem ck__law_outcome : okDef L cst d__law_outcome s__law_outcome = true := by decide +kernel
abbrev s__law_state_rows : Stmt := topS 65
theorem sc__law_state_rows : FnScope d__law_state_rows.NS (["book", "state"] : List Str) (defScope s__law_state_rows) := ⟨rfl, rfl, rfl, by decide +kernel, by decide +kernel, by decide +kernel, by decide +kernel⟩
theorem ck__law_state_rows : okDef L cst d__law_state_rows s__law_state_rows = true := by decide +kernel
abbrev s__law_risen : Stmt := topS 66
theorem sc__law_risen : FnScope d__law_risen.NS (["book", "state", "behind"] : List Str) (defScope s__law_risen) := ⟨rfl, rfl, rfl, by decide +kernel, by decide +kernel, by decide +kernel, by decide +kernel⟩
theorem ck__law_risen : okDef L cst d__law_risen s__law_risen = true := by decide +kernel
abbrev s__law_run : Stmt := topS 67
theorem sc__law_run : FnScope d__law_run.NS (["box", "book", "most"] : List Str) (defScope s__law_run) := ⟨rfl, rfl, rfl, by decide +kernel, by decide +kernel, by decide +kernel, by decide +kernel⟩
theorem ck__law_run : okDef L cst d__law_run s__law_run = true := by decide +kernel
abbrev s__law_broken : Stmt := topS 68
theorem sc__law_broken : FnScope d__law_broken.NS (["book", "states", "rows"] : List Str) (defScope s__law_broken) := ⟨rfl, rfl, rfl, by decide +kernel, by decide +kernel, by decide +kernel, by decide +kernel⟩
theorem ck__law_broken : okDef L cst d__law_broken s__law_broken = true := by decide +kernel
abbrev s_law : Stmt := topS 69
theorem sc_law : FnScope d_law.NS (["script"] : List Str) (defScope s_law) := ⟨rfl, rfl, rfl, by decide +kernel, by decide +kernel, by decide +kernel, by decide +kernel⟩
theorem ck_law : okDef L cst d_law s_law = true := by decide +kernel
theorem all_mk {l : PySem.W.OpenLaw} {w : World} {K : PySem.W.Frag} {h : Heap} {mg : Str → Option Value} {fa : Addr} (X : K.In h) (G : h.Ns mainGlobals mg) (hfa : mg "law" = some (.ref fa))
    {f0 : Addr} {od0 an0 : Option Addr} {sl0 : Array (Option Value)} {oc0 kV0 dc0 pm0 cd0 ct0 : Value}
    {f1 : Addr} {od1 an1 : Option Addr} {sl1 : Array (Option Value)} {oc1 kV1 dc1 pm1 cd1 ct1 : Value}
    {T1 : Addr} {ot1 : Value} {ho1 : Option Addr} {ta1 : Array Value} {tn1 : Nat} {st1 : Array (Option Value)}
    {f2 : Addr} {od2 an2 : Option Addr} {sl2 : Array (Option Value)} {oc2 kV2 dc2 pm2 cd2 ct2 : Value}
    {T2 : Addr} {ot2 : Value} {ho2 : Option Addr} {ta2 : Array Value} {tn2 : Nat} {st2 : Array (Option Value)}
    {f3 : Addr} {od3 an3 : Option Addr} {sl3 : Array (Option Value)} {oc3 kV3 dc3 pm3 cd3 ct3 : Value}
    {f4 : Addr} {od4 an4 : Option Addr} {sl4 : Array (Option Value)} {oc4 kV4 dc4 pm4 cd4 ct4 : Value}
    {f5 : Addr} {od5 an5 : Option Addr} {sl5 : Array (Option Value)} {oc5 kV5 dc5 pm5 cd5 ct5 : Value}
    {f6 : Addr} {od6 an6 : Option Addr} {sl6 : Array (Option Value)} {oc6 kV6 dc6 pm6 cd6 ct6 : Value}
    {f7 : Addr} {od7 an7 : Option Addr} {sl7 : Array (Option Value)} {oc7 kV7 dc7 pm7 cd7 ct7 : Value}
    {f8 : Addr} {od8 an8 : Option Addr} {sl8 : Array (Option Value)} {oc8 kV8 dc8 pm8 cd8 ct8 : Value}
    {f9 : Addr} {od9 an9 : Option Addr} {sl9 : Array (Option Value)} {oc9 kV9 dc9 pm9 cd9 ct9 : Value}
    {f10 : Addr} {od10 an10 : Option Addr} {sl10 : Array (Option Value)} {oc10 kV10 dc10 pm10 cd10 ct10 : Value}
    {f11 : Addr} {od11 an11 : Option Addr} {sl11 : Array (Option Value)} {oc11 kV11 dc11 pm11 cd11 ct11 : Value}
    {f12 : Addr} {od12 an12 : Option Addr} {sl12 : Array (Option Value)} {oc12 kV12 dc12 pm12 cd12 ct12 : Value}
    {f13 : Addr} {od13 an13 : Option Addr} {sl13 : Array (Option Value)} {oc13 kV13 dc13 pm13 cd13 ct13 : Value}
    {f14 : Addr} {od14 an14 : Option Addr} {sl14 : Array (Option Value)} {oc14 kV14 dc14 pm14 cd14 ct14 : Value}
    {f15 : Addr} {od15 an15 : Option Addr} {sl15 : Array (Option Value)} {oc15 kV15 dc15 pm15 cd15 ct15 : Value}
    {f16 : Addr} {od16 an16 : Option Addr} {sl16 : Array (Option Value)} {oc16 kV16 dc16 pm16 cd16 ct16 : Value}
    {f17 : Addr} {od17 an17 : Option Addr} {sl17 : Array (Option Value)} {oc17 kV17 dc17 pm17 cd17 ct17 : Value}
    {f18 : Addr} {od18 an18 : Option Addr} {sl18 : Array (Option Value)} {oc18 kV18 dc18 pm18 cd18 ct18 : Value}
    {f19 : Addr} {od19 an19 : Option Addr} {sl19 : Array (Option Value)} {oc19 kV19 dc19 pm19 cd19 ct19 : Value}
    {f20 : Addr} {od20 an20 : Option Addr} {sl20 : Array (Option Value)} {oc20 kV20 dc20 pm20 cd20 ct20 : Value}
    {f21 : Addr} {od21 an21 : Option Addr} {sl21 : Array (Option Value)} {oc21 kV21 dc21 pm21 cd21 ct21 : Value}
    {f22 : Addr} {od22 an22 : Option Addr} {sl22 : Array (Option Value)} {oc22 kV22 dc22 pm22 cd22 ct22 : Value}
    {f23 : Addr} {od23 an23 : Option Addr} {sl23 : Array (Option Value)} {oc23 kV23 dc23 pm23 cd23 ct23 : Value}
    {f24 : Addr} {od24 an24 : Option Addr} {sl24 : Array (Option Value)} {oc24 kV24 dc24 pm24 cd24 ct24 : Value}
    {f25 : Addr} {od25 an25 : Option Addr} {sl25 : Array (Option Value)} {oc25 kV25 dc25 pm25 cd25 ct25 : Value}
    {f26 : Addr} {od26 an26 : Option Addr} {sl26 : Array (Option Value)} {oc26 kV26 dc26 pm26 cd26 ct26 : Value}
    {f27 : Addr} {od27 an27 : Option Addr} {sl27 : Array (Option Value)} {oc27 kV27 dc27 pm27 cd27 ct27 : Value}
    {f28 : Addr} {od28 an28 : Option Addr} {sl28 : Array (Option Value)} {oc28 kV28 dc28 pm28 cd28 ct28 : Value}
    {f29 : Addr} {od29 an29 : Option Addr} {sl29 : Array (Option Value)} {oc29 kV29 dc29 pm29 cd29 ct29 : Value}
    {f30 : Addr} {od30 an30 : Option Addr} {sl30 : Array (Option Value)} {oc30 kV30 dc30 pm30 cd30 ct30 : Value}
    {f31 : Addr} {od31 an31 : Option Addr} {sl31 : Array (Option Value)} {oc31 kV31 dc31 pm31 cd31 ct31 : Value}
    {f32 : Addr} {od32 an32 : Option Addr} {sl32 : Array (Option Value)} {oc32 kV32 dc32 pm32 cd32 ct32 : Value}
    {f33 : Addr} {od33 an33 : Option Addr} {sl33 : Array (Option Value)} {oc33 kV33 dc33 pm33 cd33 ct33 : Value}
    {f34 : Addr} {od34 an34 : Option Addr} {sl34 : Array (Option Value)} {oc34 kV34 dc34 pm34 cd34 ct34 : Value}
    {f35 : Addr} {od35 an35 : Option Addr} {sl35 : Array (Option Value)} {oc35 kV35 dc35 pm35 cd35 ct35 : Value}
    {f36 : Addr} {od36 an36 : Option Addr} {sl36 : Array (Option Value)} {oc36 kV36 dc36 pm36 cd36 ct36 : Value}
    {f37 : Addr} {od37 an37 : Option Addr} {sl37 : Array (Option Value)} {oc37 kV37 dc37 pm37 cd37 ct37 : Value}
    {f38 : Addr} {od38 an38 : Option Addr} {sl38 : Array (Option Value)} {oc38 kV38 dc38 pm38 cd38 ct38 : Value}
    {f39 : Addr} {od39 an39 : Option Addr} {sl39 : Array (Option Value)} {oc39 kV39 dc39 pm39 cd39 ct39 : Value}
    {f40 : Addr} {od40 an40 : Option Addr} {sl40 : Array (Option Value)} {oc40 kV40 dc40 pm40 cd40 ct40 : Value}
    {f41 : Addr} {od41 an41 : Option Addr} {sl41 : Array (Option Value)} {oc41 kV41 dc41 pm41 cd41 ct41 : Value}
    {f42 : Addr} {od42 an42 : Option Addr} {sl42 : Array (Option Value)} {oc42 kV42 dc42 pm42 cd42 ct42 : Value}
    {f43 : Addr} {od43 an43 : Option Addr} {sl43 : Array (Option Value)} {oc43 kV43 dc43 pm43 cd43 ct43 : Value}
    {f44 : Addr} {od44 an44 : Option Addr} {sl44 : Array (Option Value)} {oc44 kV44 dc44 pm44 cd44 ct44 : Value}
    {f45 : Addr} {od45 an45 : Option Addr} {sl45 : Array (Option Value)} {oc45 kV45 dc45 pm45 cd45 ct45 : Value}
    {f46 : Addr} {od46 an46 : Option Addr} {sl46 : Array (Option Value)} {oc46 kV46 dc46 pm46 cd46 ct46 : Value}
    {f47 : Addr} {od47 an47 : Option Addr} {sl47 : Array (Option Value)} {oc47 kV47 dc47 pm47 cd47 ct47 : Value}
    {f48 : Addr} {od48 an48 : Option Addr} {sl48 : Array (Option Value)} {oc48 kV48 dc48 pm48 cd48 ct48 : Value}
    {f49 : Addr} {od49 an49 : Option Addr} {sl49 : Array (Option Value)} {oc49 kV49 dc49 pm49 cd49 ct49 : Value}
    {f50 : Addr} {od50 an50 : Option Addr} {sl50 : Array (Option Value)} {oc50 kV50 dc50 pm50 cd50 ct50 : Value}
    {f51 : Addr} {od51 an51 : Option Addr} {sl51 : Array (Option Value)} {oc51 kV51 dc51 pm51 cd51 ct51 : Value}
    {f52 : Addr} {od52 an52 : Option Addr} {sl52 : Array (Option Value)} {oc52 kV52 dc52 pm52 cd52 ct52 : Value}
    {f53 : Addr} {od53 an53 : Option Addr} {sl53 : Array (Option Value)} {oc53 kV53 dc53 pm53 cd53 ct53 : Value}
    {f54 : Addr} {od54 an54 : Option Addr} {sl54 : Array (Option Value)} {oc54 kV54 dc54 pm54 cd54 ct54 : Value}
    {f55 : Addr} {od55 an55 : Option Addr} {sl55 : Array (Option Value)} {oc55 kV55 dc55 pm55 cd55 ct55 : Value}
    {f56 : Addr} {od56 an56 : Option Addr} {sl56 : Array (Option Value)} {oc56 kV56 dc56 pm56 cd56 ct56 : Value}
    {f57 : Addr} {od57 an57 : Option Addr} {sl57 : Array (Option Value)} {oc57 kV57 dc57 pm57 cd57 ct57 : Value}
    {f58 : Addr} {od58 an58 : Option Addr} {sl58 : Array (Option Value)} {oc58 kV58 dc58 pm58 cd58 ct58 : Value}
    {f59 : Addr} {od59 an59 : Option Addr} {sl59 : Array (Option Value)} {oc59 kV59 dc59 pm59 cd59 ct59 : Value}
    {f60 : Addr} {od60 an60 : Option Addr} {sl60 : Array (Option Value)} {oc60 kV60 dc60 pm60 cd60 ct60 : Value}
    {u_MIXED : Value}
    {u_JOINED : Value}
    {u_NOBODY : Value}
    {u_MOST_OUTCOME : Value}
    {o_JOINED : Addr} {h_JOINED : Option Addr} {t_JOINED : Array Value} {n_JOINED : Nat} {l_JOINED : Array (Option Value)}
    {o_MIXED : Addr} {h_MIXED : Option Addr} {t_MIXED : Array Value} {n_MIXED : Nat} {l_MIXED : Array (Option Value)}
    (a0 : PySem.W.nsIn K mainGlobals "is_int" = some (some (.ref f0)))
    (l0 : K.lookup f0 = some ⟨oc0, od0, .func (PySem.W.fnOf "is_int" "is_int" (defArgs s_is_int) (defBody s_is_int) (defScope s_is_int) .none kV0 dc0 pm0 an0 cd0 ct0), sl0⟩)
    (c0 : PySem.W.codeIn K cd0 "is_int" = true)
    (k0 : PySem.W.keepIn K (.ref f0) = true)
    (a1 : PySem.W.nsIn K mainGlobals "is_number" = some (some (.ref f1)))
    (l1 : K.lookup f1 = some ⟨oc1, od1, .func (PySem.W.fnOf "is_number" "is_number" (defArgs s_is_number) (defBody s_is_number) (defScope s_is_number) (.ref T1) kV1 dc1 pm1 an1 cd1 ct1), sl1⟩)
    (t1 : K.lookup T1 = some ⟨ot1, ho1, .seq ta1 tn1, st1⟩)
    (v1 : Vals [(.int 0), .non] ta1.toList)
    (c1 : PySem.W.codeIn K cd1 "is_number" = true)
    (k1 : PySem.W.keepIn K (.ref f1) = true)
    (a2 : PySem.W.nsIn K mainGlobals "is_tuple" = some (some (.ref f2)))
    (l2 : K.lookup f2 = some ⟨oc2, od2, .func (PySem.W.fnOf "is_tuple" "is_tuple" (defArgs s_is_tuple) (defBody s_is_tuple) (defScope s_is_tuple) (.ref T2) kV2 dc2 pm2 an2 cd2 ct2), sl2⟩)
    (t2 : K.lookup T2 = some ⟨ot2, ho2, .seq ta2 tn2, st2⟩)
    (v2 : Vals [.non] ta2.toList)
    (c2 : PySem.W.codeIn K cd2 "is_tuple" = true)
    (k2 : PySem.W.keepIn K (.ref f2) = true)
    (a3 : PySem.W.nsIn K mainGlobals "laid_out" = some (some (.ref f3)))
    (l3 : K.lookup f3 = some ⟨oc3, od3, .func (PySem.W.fnOf "laid_out" "laid_out" (defArgs s_laid_out) (defBody s_laid_out) (defScope s_laid_out) .none kV3 dc3 pm3 an3 cd3 ct3), sl3⟩)
    (c3 : PySem.W.codeIn K cd3 "laid_out" = true)
    (k3 : PySem.W.keepIn K (.ref f3) = true)
    (a4 : PySem.W.nsIn K mainGlobals "leaf_worth" = some (some (.ref f4)))
    (l4 : K.lookup f4 = some ⟨oc4, od4, .func (PySem.W.fnOf "leaf_worth" "leaf_worth" (defArgs s_leaf_worth) (defBody s_leaf_worth) (defScope s_leaf_worth) .none kV4 dc4 pm4 an4 cd4 ct4), sl4⟩)
    (c4 : PySem.W.codeIn K cd4 "leaf_worth" = true)
    (k4 : PySem.W.keepIn K (.ref f4) = true)
    (a5 : PySem.W.nsIn K mainGlobals "mixed_worth" = some (some (.ref f5)))
    (l5 : K.lookup f5 = some ⟨oc5, od5, .func (PySem.W.fnOf "mixed_worth" "mixed_worth" (defArgs s_mixed_worth) (defBody s_mixed_worth) (defScope s_mixed_worth) .none kV5 dc5 pm5 an5 cd5 ct5), sl5⟩)
    (c5 : PySem.W.codeIn K cd5 "mixed_worth" = true)
    (k5 : PySem.W.keepIn K (.ref f5) = true)
    (a6 : PySem.W.nsIn K mainGlobals "worth_of" = some (some (.ref f6)))
    (l6 : K.lookup f6 = some ⟨oc6, od6, .func (PySem.W.fnOf "worth_of" "worth_of" (defArgs s_worth_of) (defBody s_worth_of) (defScope s_worth_of) .none kV6 dc6 pm6 an6 cd6 ct6), sl6⟩)
    (c6 : PySem.W.codeIn K cd6 "worth_of" = true)
    (k6 : PySem.W.keepIn K (.ref f6) = true)
    (a7 : PySem.W.nsIn K mainGlobals "compares" = some (some (.ref f7)))
    (l7 : K.lookup f7 = some ⟨oc7, od7, .func (PySem.W.fnOf "compares" "compares" (defArgs s_compares) (defBody s_compares) (defScope s_compares) .none kV7 dc7 pm7 an7 cd7 ct7), sl7⟩)
    (c7 : PySem.W.codeIn K cd7 "compares" = true)
    (k7 : PySem.W.keepIn K (.ref f7) = true)
    (a8 : PySem.W.nsIn K mainGlobals "holds" = some (some (.ref f8)))
    (l8 : K.lookup f8 = some ⟨oc8, od8, .func (PySem.W.fnOf "holds" "holds" (defArgs s_holds) (defBody s_holds) (defScope s_holds) .none kV8 dc8 pm8 an8 cd8 ct8), sl8⟩)
    (c8 : PySem.W.codeIn K cd8 "holds" = true)
    (k8 : PySem.W.keepIn K (.ref f8) = true)
    (a9 : PySem.W.nsIn K mainGlobals "begin_place" = some (some (.ref f9)))
    (l9 : K.lookup f9 = some ⟨oc9, od9, .func (PySem.W.fnOf "begin_place" "begin_place" (defArgs s_begin_place) (defBody s_begin_place) (defScope s_begin_place) .none kV9 dc9 pm9 an9 cd9 ct9), sl9⟩)
    (c9 : PySem.W.codeIn K cd9 "begin_place" = true)
    (k9 : PySem.W.keepIn K (.ref f9) = true)
    (a10 : PySem.W.nsIn K mainGlobals "is_over" = some (some (.ref f10)))
    (l10 : K.lookup f10 = some ⟨oc10, od10, .func (PySem.W.fnOf "is_over" "is_over" (defArgs s_is_over) (defBody s_is_over) (defScope s_is_over) .none kV10 dc10 pm10 an10 cd10 ct10), sl10⟩)
    (c10 : PySem.W.codeIn K cd10 "is_over" = true)
    (k10 : PySem.W.keepIn K (.ref f10) = true)
    (a11 : PySem.W.nsIn K mainGlobals "seen_se\x61ls" = some (some (.ref f11)))
    (l11 : K.lookup f11 = some ⟨oc11, od11, .func (PySem.W.fnOf "seen_se\x61ls" "seen_se\x61ls" (defArgs s_seen_seels) (defBody s_seen_seels) (defScope s_seen_seels) .none kV11 dc11 pm11 an11 cd11 ct11), sl11⟩)
    (c11 : PySem.W.codeIn K cd11 "seen_se\x61ls" = true)
    (k11 : PySem.W.keepIn K (.ref f11) = true)
    (a12 : PySem.W.nsIn K mainGlobals "sight_of" = some (some (.ref f12)))
    (l12 : K.lookup f12 = some ⟨oc12, od12, .func (PySem.W.fnOf "sight_of" "sight_of" (defArgs s_sight_of) (defBody s_sight_of) (defScope s_sight_of) .none kV12 dc12 pm12 an12 cd12 ct12), sl12⟩)
    (c12 : PySem.W.codeIn K cd12 "sight_of" = true)
    (k12 : PySem.W.keepIn K (.ref f12) = true)
    (a13 : PySem.W.nsIn K mainGlobals "outcome_of" = some (some (.ref f13)))
    (l13 : K.lookup f13 = some ⟨oc13, od13, .func (PySem.W.fnOf "outcome_of" "outcome_of" (defArgs s_outcome_of) (defBody s_outcome_of) (defScope s_outcome_of) .none kV13 dc13 pm13 an13 cd13 ct13), sl13⟩)
    (c13 : PySem.W.codeIn K cd13 "outcome_of" = true)
    (k13 : PySem.W.keepIn K (.ref f13) = true)
    (a14 : PySem.W.nsIn K mainGlobals "stepped" = some (some (.ref f14)))
    (l14 : K.lookup f14 = some ⟨oc14, od14, .func (PySem.W.fnOf "stepped" "stepped" (defArgs s_stepped) (defBody s_stepped) (defScope s_stepped) .none kV14 dc14 pm14 an14 cd14 ct14), sl14⟩)
    (c14 : PySem.W.codeIn K cd14 "stepped" = true)
    (k14 : PySem.W.keepIn K (.ref f14) = true)
    (a15 : PySem.W.nsIn K mainGlobals "se\x61ls_behind" = some (some (.ref f15)))
    (l15 : K.lookup f15 = some ⟨oc15, od15, .func (PySem.W.fnOf "se\x61ls_behind" "se\x61ls_behind" (defArgs s_seels_behind) (defBody s_seels_behind) (defScope s_seels_behind) .none kV15 dc15 pm15 an15 cd15 ct15), sl15⟩)
    (c15 : PySem.W.codeIn K cd15 "se\x61ls_behind" = true)
    (k15 : PySem.W.keepIn K (.ref f15) = true)
    (a16 : PySem.W.nsIn K mainGlobals "done_once" = some (some (.ref f16)))
    (l16 : K.lookup f16 = some ⟨oc16, od16, .func (PySem.W.fnOf "done_once" "done_once" (defArgs s_done_once) (defBody s_done_once) (defScope s_done_once) .none kV16 dc16 pm16 an16 cd16 ct16), sl16⟩)
    (c16 : PySem.W.codeIn K cd16 "done_once" = true)
    (k16 : PySem.W.keepIn K (.ref f16) = true)
    (a17 : PySem.W.nsIn K mainGlobals "deed_behind" = some (some (.ref f17)))
    (l17 : K.lookup f17 = some ⟨oc17, od17, .func (PySem.W.fnOf "deed_behind" "deed_behind" (defArgs s_deed_behind) (defBody s_deed_behind) (defScope s_deed_behind) .none kV17 dc17 pm17 an17 cd17 ct17), sl17⟩)
    (c17 : PySem.W.codeIn K cd17 "deed_behind" = true)
    (k17 : PySem.W.keepIn K (.ref f17) = true)
    (a18 : PySem.W.nsIn K mainGlobals "call_behind" = some (some (.ref f18)))
    (l18 : K.lookup f18 = some ⟨oc18, od18, .func (PySem.W.fnOf "call_behind" "call_behind" (defArgs s_call_behind) (defBody s_call_behind) (defScope s_call_behind) .none kV18 dc18 pm18 an18 cd18 ct18), sl18⟩)
    (c18 : PySem.W.codeIn K cd18 "call_behind" = true)
    (k18 : PySem.W.keepIn K (.ref f18) = true)
    (a19 : PySem.W.nsIn K mainGlobals "pass_behind" = some (some (.ref f19)))
    (l19 : K.lookup f19 = some ⟨oc19, od19, .func (PySem.W.fnOf "pass_behind" "pass_behind" (defArgs s_pass_behind) (defBody s_pass_behind) (defScope s_pass_behind) .none kV19 dc19 pm19 an19 cd19 ct19), sl19⟩)
    (c19 : PySem.W.codeIn K cd19 "pass_behind" = true)
    (k19 : PySem.W.keepIn K (.ref f19) = true)
    (a20 : PySem.W.nsIn K mainGlobals "dawn_behind" = some (some (.ref f20)))
    (l20 : K.lookup f20 = some ⟨oc20, od20, .func (PySem.W.fnOf "dawn_behind" "dawn_behind" (defArgs s_dawn_behind) (defBody s_dawn_behind) (defScope s_dawn_behind) .none kV20 dc20 pm20 an20 cd20 ct20), sl20⟩)
    (c20 : PySem.W.codeIn K cd20 "dawn_behind" = true)
    (k20 : PySem.W.keepIn K (.ref f20) = true)
    (a21 : PySem.W.nsIn K mainGlobals "told_outcome" = some (some (.ref f21)))
    (l21 : K.lookup f21 = some ⟨oc21, od21, .func (PySem.W.fnOf "told_outcome" "told_outcome" (defArgs s_told_outcome) (defBody s_told_outcome) (defScope s_told_outcome) .none kV21 dc21 pm21 an21 cd21 ct21), sl21⟩)
    (c21 : PySem.W.codeIn K cd21 "told_outcome" = true)
    (k21 : PySem.W.keepIn K (.ref f21) = true)
    (a22 : PySem.W.nsIn K mainGlobals "begin_state" = some (some (.ref f22)))
    (l22 : K.lookup f22 = some ⟨oc22, od22, .func (PySem.W.fnOf "begin_state" "begin_state" (defArgs s_begin_state) (defBody s_begin_state) (defScope s_begin_state) .none kV22 dc22 pm22 an22 cd22 ct22), sl22⟩)
    (c22 : PySem.W.codeIn K cd22 "begin_state" = true)
    (k22 : PySem.W.keepIn K (.ref f22) = true)
    (a23 : PySem.W.nsIn K mainGlobals "place_behind" = some (some (.ref f23)))
    (l23 : K.lookup f23 = some ⟨oc23, od23, .func (PySem.W.fnOf "place_behind" "place_behind" (defArgs s_place_behind) (defBody s_place_behind) (defScope s_place_behind) .none kV23 dc23 pm23 an23 cd23 ct23), sl23⟩)
    (c23 : PySem.W.codeIn K cd23 "place_behind" = true)
    (k23 : PySem.W.keepIn K (.ref f23) = true)
    (a24 : PySem.W.nsIn K mainGlobals "step_row" = some (some (.ref f24)))
    (l24 : K.lookup f24 = some ⟨oc24, od24, .func (PySem.W.fnOf "step_row" "step_row" (defArgs s_step_row) (defBody s_step_row) (defScope s_step_row) .none kV24 dc24 pm24 an24 cd24 ct24), sl24⟩)
    (c24 : PySem.W.codeIn K cd24 "step_row" = true)
    (k24 : PySem.W.keepIn K (.ref f24) = true)
    (a25 : PySem.W.nsIn K mainGlobals "open_holds" = some (some (.ref f25)))
    (l25 : K.lookup f25 = some ⟨oc25, od25, .func (PySem.W.fnOf "open_holds" "open_holds" (defArgs s_open_holds) (defBody s_open_holds) (defScope s_open_holds) .none kV25 dc25 pm25 an25 cd25 ct25), sl25⟩)
    (c25 : PySem.W.codeIn K cd25 "open_holds" = true)
    (k25 : PySem.W.keepIn K (.ref f25) = true)
    (a26 : PySem.W.nsIn K mainGlobals "is_kept" = some (some (.ref f26)))
    (l26 : K.lookup f26 = some ⟨oc26, od26, .func (PySem.W.fnOf "is_kept" "is_kept" (defArgs s_is_kept) (defBody s_is_kept) (defScope s_is_kept) .none kV26 dc26 pm26 an26 cd26 ct26), sl26⟩)
    (c26 : PySem.W.codeIn K cd26 "is_kept" = true)
    (k26 : PySem.W.keepIn K (.ref f26) = true)
    (a27 : PySem.W.nsIn K mainGlobals "broken" = some (some (.ref f27)))
    (l27 : K.lookup f27 = some ⟨oc27, od27, .func (PySem.W.fnOf "broken" "broken" (defArgs s_broken) (defBody s_broken) (defScope s_broken) .none kV27 dc27 pm27 an27 cd27 ct27), sl27⟩)
    (c27 : PySem.W.codeIn K cd27 "broken" = true)
    (k27 : PySem.W.keepIn K (.ref f27) = true)
    (a28 : PySem.W.nsIn K mainGlobals "known_begin" = some (some (.ref f28)))
    (l28 : K.lookup f28 = some ⟨oc28, od28, .func (PySem.W.fnOf "known_begin" "known_begin" (defArgs s_known_begin) (defBody s_known_begin) (defScope s_known_begin) .none kV28 dc28 pm28 an28 cd28 ct28), sl28⟩)
    (c28 : PySem.W.codeIn K cd28 "known_begin" = true)
    (k28 : PySem.W.keepIn K (.ref f28) = true)
    (a29 : PySem.W.nsIn K mainGlobals "_law_box" = some (some (.ref f29)))
    (l29 : K.lookup f29 = some ⟨oc29, od29, .func (PySem.W.fnOf "_law_box" "_law_box" (defArgs s__law_box) (defBody s__law_box) (defScope s__law_box) .none kV29 dc29 pm29 an29 cd29 ct29), sl29⟩)
    (c29 : PySem.W.codeIn K cd29 "_law_box" = true)
    (k29 : PySem.W.keepIn K (.ref f29) = true)
    (a30 : PySem.W.nsIn K mainGlobals "_law_take" = some (some (.ref f30)))
    (l30 : K.lookup f30 = some ⟨oc30, od30, .func (PySem.W.fnOf "_law_take" "_law_take" (defArgs s__law_take) (defBody s__law_take) (defScope s__law_take) .none kV30 dc30 pm30 an30 cd30 ct30), sl30⟩)
    (c30 : PySem.W.codeIn K cd30 "_law_take" = true)
    (k30 : PySem.W.keepIn K (.ref f30) = true)
    (a31 : PySem.W.nsIn K mainGlobals "_law_pick" = some (some (.ref f31)))
    (l31 : K.lookup f31 = some ⟨oc31, od31, .func (PySem.W.fnOf "_law_pick" "_law_pick" (defArgs s__law_pick) (defBody s__law_pick) (defScope s__law_pick) .none kV31 dc31 pm31 an31 cd31 ct31), sl31⟩)
    (c31 : PySem.W.codeIn K cd31 "_law_pick" = true)
    (k31 : PySem.W.keepIn K (.ref f31) = true)
    (a32 : PySem.W.nsIn K mainGlobals "_law_same" = some (some (.ref f32)))
    (l32 : K.lookup f32 = some ⟨oc32, od32, .func (PySem.W.fnOf "_law_same" "_law_same" (defArgs s__law_same) (defBody s__law_same) (defScope s__law_same) .none kV32 dc32 pm32 an32 cd32 ct32), sl32⟩)
    (c32 : PySem.W.codeIn K cd32 "_law_same" = true)
    (k32 : PySem.W.keepIn K (.ref f32) = true)
    (a33 : PySem.W.nsIn K mainGlobals "_law_sum" = some (some (.ref f33)))
    (l33 : K.lookup f33 = some ⟨oc33, od33, .func (PySem.W.fnOf "_law_sum" "_law_sum" (defArgs s__law_sum) (defBody s__law_sum) (defScope s__law_sum) .none kV33 dc33 pm33 an33 cd33 ct33), sl33⟩)
    (c33 : PySem.W.codeIn K cd33 "_law_sum" = true)
    (k33 : PySem.W.keepIn K (.ref f33) = true)
    (a34 : PySem.W.nsIn K mainGlobals "_law_holds" = some (some (.ref f34)))
    (l34 : K.lookup f34 = some ⟨oc34, od34, .func (PySem.W.fnOf "_law_holds" "_law_holds" (defArgs s__law_holds) (defBody s__law_holds) (defScope s__law_holds) .none kV34 dc34 pm34 an34 cd34 ct34), sl34⟩)
    (c34 : PySem.W.codeIn K cd34 "_law_holds" = true)
    (k34 : PySem.W.keepIn K (.ref f34) = true)
    (a35 : PySem.W.nsIn K mainGlobals "_law_sees" = some (some (.ref f35)))
    (l35 : K.lookup f35 = some ⟨oc35, od35, .func (PySem.W.fnOf "_law_sees" "_law_sees" (defArgs s__law_sees) (defBody s__law_sees) (defScope s__law_sees) .none kV35 dc35 pm35 an35 cd35 ct35), sl35⟩)
    (c35 : PySem.W.codeIn K cd35 "_law_sees" = true)
    (k35 : PySem.W.keepIn K (.ref f35) = true)
    (a36 : PySem.W.nsIn K mainGlobals "_law_first" = some (some (.ref f36)))
    (l36 : K.lookup f36 = some ⟨oc36, od36, .func (PySem.W.fnOf "_law_first" "_law_first" (defArgs s__law_first) (defBody s__law_first) (defScope s__law_first) .none kV36 dc36 pm36 an36 cd36 ct36), sl36⟩)
    (c36 : PySem.W.codeIn K cd36 "_law_first" = true)
    (k36 : PySem.W.keepIn K (.ref f36) = true)
    (a37 : PySem.W.nsIn K mainGlobals "_law_stepped" = some (some (.ref f37)))
    (l37 : K.lookup f37 = some ⟨oc37, od37, .func (PySem.W.fnOf "_law_stepped" "_law_stepped" (defArgs s__law_stepped) (defBody s__law_stepped) (defScope s__law_stepped) .none kV37 dc37 pm37 an37 cd37 ct37), sl37⟩)
    (c37 : PySem.W.codeIn K cd37 "_law_stepped" = true)
    (k37 : PySem.W.keepIn K (.ref f37) = true)
    (a38 : PySem.W.nsIn K mainGlobals "_law_done" = some (some (.ref f38)))
    (l38 : K.lookup f38 = some ⟨oc38, od38, .func (PySem.W.fnOf "_law_done" "_law_done" (defArgs s__law_done) (defBody s__law_done) (defScope s__law_done) .none kV38 dc38 pm38 an38 cd38 ct38), sl38⟩)
    (c38 : PySem.W.codeIn K cd38 "_law_done" = true)
    (k38 : PySem.W.keepIn K (.ref f38) = true)
    (a39 : PySem.W.nsIn K mainGlobals "_law_dawn" = some (some (.ref f39)))
    (l39 : K.lookup f39 = some ⟨oc39, od39, .func (PySem.W.fnOf "_law_dawn" "_law_dawn" (defArgs s__law_dawn) (defBody s__law_dawn) (defScope s__law_dawn) .none kV39 dc39 pm39 an39 cd39 ct39), sl39⟩)
    (c39 : PySem.W.codeIn K cd39 "_law_dawn" = true)
    (k39 : PySem.W.keepIn K (.ref f39) = true)
    (a40 : PySem.W.nsIn K mainGlobals "_law_worths" = some (some (.ref f40)))
    (l40 : K.lookup f40 = some ⟨oc40, od40, .func (PySem.W.fnOf "_law_worths" "_law_worths" (defArgs s__law_worths) (defBody s__law_worths) (defScope s__law_worths) .none kV40 dc40 pm40 an40 cd40 ct40), sl40⟩)
    (c40 : PySem.W.codeIn K cd40 "_law_worths" = true)
    (k40 : PySem.W.keepIn K (.ref f40) = true)
    (a41 : PySem.W.nsIn K mainGlobals "_law_rows" = some (some (.ref f41)))
    (l41 : K.lookup f41 = some ⟨oc41, od41, .func (PySem.W.fnOf "_law_rows" "_law_rows" (defArgs s__law_rows) (defBody s__law_rows) (defScope s__law_rows) .none kV41 dc41 pm41 an41 cd41 ct41), sl41⟩)
    (c41 : PySem.W.codeIn K cd41 "_law_rows" = true)
    (k41 : PySem.W.keepIn K (.ref f41) = true)
    (a42 : PySem.W.nsIn K mainGlobals "_law_is_small" = some (some (.ref f42)))
    (l42 : K.lookup f42 = some ⟨oc42, od42, .func (PySem.W.fnOf "_law_is_small" "_law_is_small" (defArgs s__law_is_small) (defBody s__law_is_small) (defScope s__law_is_small) .none kV42 dc42 pm42 an42 cd42 ct42), sl42⟩)
    (c42 : PySem.W.codeIn K cd42 "_law_is_small" = true)
    (k42 : PySem.W.keepIn K (.ref f42) = true)
    (a43 : PySem.W.nsIn K mainGlobals "_law_number" = some (some (.ref f43)))
    (l43 : K.lookup f43 = some ⟨oc43, od43, .func (PySem.W.fnOf "_law_number" "_law_number" (defArgs s__law_number) (defBody s__law_number) (defScope s__law_number) .none kV43 dc43 pm43 an43 cd43 ct43), sl43⟩)
    (c43 : PySem.W.codeIn K cd43 "_law_number" = true)
    (k43 : PySem.W.keepIn K (.ref f43) = true)
    (a44 : PySem.W.nsIn K mainGlobals "_law_when" = some (some (.ref f44)))
    (l44 : K.lookup f44 = some ⟨oc44, od44, .func (PySem.W.fnOf "_law_when" "_law_when" (defArgs s__law_when) (defBody s__law_when) (defScope s__law_when) .none kV44 dc44 pm44 an44 cd44 ct44), sl44⟩)
    (c44 : PySem.W.codeIn K cd44 "_law_when" = true)
    (k44 : PySem.W.keepIn K (.ref f44) = true)
    (a45 : PySem.W.nsIn K mainGlobals "_law_any_deal" = some (some (.ref f45)))
    (l45 : K.lookup f45 = some ⟨oc45, od45, .func (PySem.W.fnOf "_law_any_deal" "_law_any_deal" (defArgs s__law_any_deal) (defBody s__law_any_deal) (defScope s__law_any_deal) .none kV45 dc45 pm45 an45 cd45 ct45), sl45⟩)
    (c45 : PySem.W.codeIn K cd45 "_law_any_deal" = true)
    (k45 : PySem.W.keepIn K (.ref f45) = true)
    (a46 : PySem.W.nsIn K mainGlobals "_law_promise" = some (some (.ref f46)))
    (l46 : K.lookup f46 = some ⟨oc46, od46, .func (PySem.W.fnOf "_law_promise" "_law_promise" (defArgs s__law_promise) (defBody s__law_promise) (defScope s__law_promise) .none kV46 dc46 pm46 an46 cd46 ct46), sl46⟩)
    (c46 : PySem.W.codeIn K cd46 "_law_promise" = true)
    (k46 : PySem.W.keepIn K (.ref f46) = true)
    (a47 : PySem.W.nsIn K mainGlobals "_law_swap" = some (some (.ref f47)))
    (l47 : K.lookup f47 = some ⟨oc47, od47, .func (PySem.W.fnOf "_law_swap" "_law_swap" (defArgs s__law_swap) (defBody s__law_swap) (defScope s__law_swap) .none kV47 dc47 pm47 an47 cd47 ct47), sl47⟩)
    (c47 : PySem.W.codeIn K cd47 "_law_swap" = true)
    (k47 : PySem.W.keepIn K (.ref f47) = true)
    (a48 : PySem.W.nsIn K mainGlobals "_law_deal" = some (some (.ref f48)))
    (l48 : K.lookup f48 = some ⟨oc48, od48, .func (PySem.W.fnOf "_law_deal" "_law_deal" (defArgs s__law_deal) (defBody s__law_deal) (defScope s__law_deal) .none kV48 dc48 pm48 an48 cd48 ct48), sl48⟩)
    (c48 : PySem.W.codeIn K cd48 "_law_deal" = true)
    (k48 : PySem.W.keepIn K (.ref f48) = true)
    (a49 : PySem.W.nsIn K mainGlobals "_law_caller" = some (some (.ref f49)))
    (l49 : K.lookup f49 = some ⟨oc49, od49, .func (PySem.W.fnOf "_law_caller" "_law_caller" (defArgs s__law_caller) (defBody s__law_caller) (defScope s__law_caller) .none kV49 dc49 pm49 an49 cd49 ct49), sl49⟩)
    (c49 : PySem.W.codeIn K cd49 "_law_caller" = true)
    (k49 : PySem.W.keepIn K (.ref f49) = true)
    (a50 : PySem.W.nsIn K mainGlobals "_law_with_call" = some (some (.ref f50)))
    (l50 : K.lookup f50 = some ⟨oc50, od50, .func (PySem.W.fnOf "_law_with_call" "_law_with_call" (defArgs s__law_with_call) (defBody s__law_with_call) (defScope s__law_with_call) .none kV50 dc50 pm50 an50 cd50 ct50), sl50⟩)
    (c50 : PySem.W.codeIn K cd50 "_law_with_call" = true)
    (k50 : PySem.W.keepIn K (.ref f50) = true)
    (a51 : PySem.W.nsIn K mainGlobals "_law_breaks" = some (some (.ref f51)))
    (l51 : K.lookup f51 = some ⟨oc51, od51, .func (PySem.W.fnOf "_law_breaks" "_law_breaks" (defArgs s__law_breaks) (defBody s__law_breaks) (defScope s__law_breaks) .none kV51 dc51 pm51 an51 cd51 ct51), sl51⟩)
    (c51 : PySem.W.codeIn K cd51 "_law_breaks" = true)
    (k51 : PySem.W.keepIn K (.ref f51) = true)
    (a52 : PySem.W.nsIn K mainGlobals "_law_hidden" = some (some (.ref f52)))
    (l52 : K.lookup f52 = some ⟨oc52, od52, .func (PySem.W.fnOf "_law_hidden" "_law_hidden" (defArgs s__law_hidden) (defBody s__law_hidden) (defScope s__law_hidden) .none kV52 dc52 pm52 an52 cd52 ct52), sl52⟩)
    (c52 : PySem.W.codeIn K cd52 "_law_hidden" = true)
    (k52 : PySem.W.keepIn K (.ref f52) = true)
    (a53 : PySem.W.nsIn K mainGlobals "_law_book" = some (some (.ref f53)))
    (l53 : K.lookup f53 = some ⟨oc53, od53, .func (PySem.W.fnOf "_law_book" "_law_book" (defArgs s__law_book) (defBody s__law_book) (defScope s__law_book) .none kV53 dc53 pm53 an53 cd53 ct53), sl53⟩)
    (c53 : PySem.W.codeIn K cd53 "_law_book" = true)
    (k53 : PySem.W.keepIn K (.ref f53) = true)
    (a54 : PySem.W.nsIn K mainGlobals "_law_start" = some (some (.ref f54)))
    (l54 : K.lookup f54 = some ⟨oc54, od54, .func (PySem.W.fnOf "_law_start" "_law_start" (defArgs s__law_start) (defBody s__law_start) (defScope s__law_start) .none kV54 dc54 pm54 an54 cd54 ct54), sl54⟩)
    (c54 : PySem.W.codeIn K cd54 "_law_start" = true)
    (k54 : PySem.W.keepIn K (.ref f54) = true)
    (a55 : PySem.W.nsIn K mainGlobals "_law_outcome" = some (some (.ref f55)))
    (l55 : K.lookup f55 = some ⟨oc55, od55, .func (PySem.W.fnOf "_law_outcome" "_law_outcome" (defArgs s__law_outcome) (defBody s__law_outcome) (defScope s__law_outcome) .none kV55 dc55 pm55 an55 cd55 ct55), sl55⟩)
    (c55 : PySem.W.codeIn K cd55 "_law_outcome" = true)
    (k55 : PySem.W.keepIn K (.ref f55) = true)
    (a56 : PySem.W.nsIn K mainGlobals "_law_state_rows" = some (some (.ref f56)))
    (l56 : K.lookup f56 = some ⟨oc56, od56, .func (PySem.W.fnOf "_law_state_rows" "_law_state_rows" (defArgs s__law_state_rows) (defBody s__law_state_rows) (defScope s__law_state_rows) .none kV56 dc56 pm56 an56 cd56 ct56), sl56⟩)
    (c56 : PySem.W.codeIn K cd56 "_law_state_rows" = true)
    (k56 : PySem.W.keepIn K (.ref f56) = true)
    (a57 : PySem.W.nsIn K mainGlobals "_law_risen" = some (some (.ref f57)))
    (l57 : K.lookup f57 = some ⟨oc57, od57, .func (PySem.W.fnOf "_law_risen" "_law_risen" (defArgs s__law_risen) (defBody s__law_risen) (defScope s__law_risen) .none kV57 dc57 pm57 an57 cd57 ct57), sl57⟩)
    (c57 : PySem.W.codeIn K cd57 "_law_risen" = true)
    (k57 : PySem.W.keepIn K (.ref f57) = true)
    (a58 : PySem.W.nsIn K mainGlobals "_law_run" = some (some (.ref f58)))
    (l58 : K.lookup f58 = some ⟨oc58, od58, .func (PySem.W.fnOf "_law_run" "_law_run" (defArgs s__law_run) (defBody s__law_run) (defScope s__law_run) .none kV58 dc58 pm58 an58 cd58 ct58), sl58⟩)
    (c58 : PySem.W.codeIn K cd58 "_law_run" = true)
    (k58 : PySem.W.keepIn K (.ref f58) = true)
    (a59 : PySem.W.nsIn K mainGlobals "_law_broken" = some (some (.ref f59)))
    (l59 : K.lookup f59 = some ⟨oc59, od59, .func (PySem.W.fnOf "_law_broken" "_law_broken" (defArgs s__law_broken) (defBody s__law_broken) (defScope s__law_broken) .none kV59 dc59 pm59 an59 cd59 ct59), sl59⟩)
    (c59 : PySem.W.codeIn K cd59 "_law_broken" = true)
    (k59 : PySem.W.keepIn K (.ref f59) = true)
    (a60 : PySem.W.nsIn K mainGlobals "law" = some (some (.ref f60)))
    (l60 : K.lookup f60 = some ⟨oc60, od60, .func (PySem.W.fnOf "law" "law" (defArgs s_law) (defBody s_law) (defScope s_law) .none kV60 dc60 pm60 an60 cd60 ct60), sl60⟩)
    (c60 : PySem.W.codeIn K cd60 "law" = true)
    (k60 : PySem.W.keepIn K (.ref f60) = true)
    (y0 : PySem.W.nsIn K mainGlobals "len" = some none)
    (y1 : PySem.W.nsIn K mainGlobals "abs" = some none)
    (y2 : PySem.W.nsIn K mainGlobals "int" = some none)
    (y3 : PySem.W.nsIn K mainGlobals "min" = some none)
    (y4 : PySem.W.nsIn K mainGlobals "max" = some none)
    (y5 : PySem.W.nsIn K mainGlobals "str" = some none)
    (y6 : PySem.W.nsIn K mainGlobals "tuple" = some none)
    (y7 : PySem.W.nsIn K mainGlobals "all" = some none)
    (y8 : PySem.W.nsIn K mainGlobals "any" = some none)
    (y9 : PySem.W.nsIn K mainGlobals "bool" = some none)
    (y10 : PySem.W.nsIn K mainGlobals "list" = some none)
    (y11 : PySem.W.nsIn K mainGlobals "range" = some none)
    (y12 : PySem.W.nsIn K mainGlobals "enumerate" = some none)
    (y13 : PySem.W.nsIn K mainGlobals "zip" = some none)
    (y14 : PySem.W.nsIn K mainGlobals "isinstance" = some none)
    (y15 : PySem.W.nsIn K mainGlobals "sum" = some none)
    (y16 : PySem.W.nsIn K mainGlobals "sorted" = some none)
    (g_MIXED : PySem.W.nsIn K mainGlobals "MIXED" = some (some u_MIXED))
    (g_JOINED : PySem.W.nsIn K mainGlobals "JOINED" = some (some u_JOINED))
    (g_NOBODY : PySem.W.nsIn K mainGlobals "NOBODY" = some (some u_NOBODY))
    (g_MOST_OUTCOME : PySem.W.nsIn K mainGlobals "MOST_OUTCOME" = some (some u_MOST_OUTCOME))
    (r_MIXED : RelV (.ref o_MIXED) u_MIXED)
    (r_JOINED : RelV (.ref o_JOINED) u_JOINED)
    (r_NOBODY : RelV (.int (-1)) u_NOBODY)
    (r_MOST_OUTCOME : RelV (.int 5) u_MOST_OUTCOME)
    (q_JOINED : K.lookup o_JOINED = some ⟨.type "tuple", h_JOINED, .seq t_JOINED n_JOINED, l_JOINED⟩)
    (v_JOINED : Vals [(.str (Str.ofString "not")), (.str (Str.ofString "and")), (.str (Str.ofString "or"))] t_JOINED.toList)
    (z_JOINED : t_JOINED.size ≤ sizeLine)
    (q_MIXED : K.lookup o_MIXED = some ⟨.type "tuple", h_MIXED, .seq t_MIXED n_MIXED, l_MIXED⟩)
    (v_MIXED : Vals [(.str (Str.ofString "plus")), (.str (Str.ofString "minus")), (.str (Str.ofString "times")), (.str (Str.ofString "least")), (.str (Str.ofString "most"))] t_MIXED.toList)
    (z_MIXED : t_MIXED.size ≤ sizeLine) :
    ∃ fd : FuncData, (∀ (s : Shared) (v : Value), BindsTo s fd ⟨[v], []⟩ [("script", v)]) ∧ ∀ base : Heap, K.In base → base.Ns mainGlobals mg → FnOk l.prog w K mg base CX0 26 fa fd ["script"] (spLaw 63 K) := by
  have e := hfa.symm.trans (PySem.W.mg_of X G a60)
  cases e
  have G0 := fun_mk (st := s_is_int) l0 c0 k0
  have F0 : FunE (⟨K, w⟩ : Kw) "is_int" s_is_int _ _ := FunE.of G0
  have b0 := G0.binds (ps := ["value"]) fun _ _ _ _ _ _ us hl => match us, hl with | [_], _ => rfl
  have m0 : More (⟨K, w⟩ : Kw) (PySem.W.fnOf "is_int" "is_int" (defArgs s_is_int) (defBody s_is_int) (defScope s_is_int) .none kV0 dc0 pm0 an0 cd0 ct0) (["value"] : List Str) d_is_int := More.none rfl rfl
  have D1 := fund_mk (K := (⟨K, w⟩ : Kw)) (st := s_is_number) l1 c1 k1 t1 v1 (by simp)
  have F1 : FunE (⟨K, w⟩ : Kw) "is_number" s_is_number _ _ := ⟨_, D1⟩
  have b1 := binds_all (ps := (["value", "least", "most"] : List Str)) D1 (by simp) fun _ _ _ _ _ _ _ us its hu hi => match us, its, hu, hi with | [_, _, _], [_, _], _, _ => ⟨_, rfl, rfl⟩
  have m1 : More (⟨K, w⟩ : Kw) (PySem.W.fnOf "is_number" "is_number" (defArgs s_is_number) (defBody s_is_number) (defScope s_is_number) (.ref T1) kV1 dc1 pm1 an1 cd1 ct1) (["value", "least", "most"] : List Str) d_is_number := ⟨fun j ks h => by
    simp [d_is_number] at h
    , fun j ds h => by
    simp only [d_is_number, List.mem_cons, List.mem_nil_iff, or_false, Prod.mk.injEq] at h
    rcases h with ⟨rfl, rfl⟩
    · obtain ⟨dus, r, bb⟩ := D1.binds1 (ps := (["value", "least", "most"] : List Str)) 1 0 (by simp) (by decide) fun _ _ _ _ _ _ _ us its hu hi => match us, its, hu, hi with | [_], [_, _], _, _ => ⟨_, rfl, rfl⟩
      exact ⟨_, dus, bb, r, (KDs.cons (KD.int 0) (KDs.cons KD.non KDs.nil))⟩
    ⟩
  have D2 := fund_mk (K := (⟨K, w⟩ : Kw)) (st := s_is_tuple) l2 c2 k2 t2 v2 (by simp)
  have F2 : FunE (⟨K, w⟩ : Kw) "is_tuple" s_is_tuple _ _ := ⟨_, D2⟩
  have b2 := binds_all (ps := (["value", "many"] : List Str)) D2 (by simp) fun _ _ _ _ _ _ _ us its hu hi => match us, its, hu, hi with | [_, _], [_], _, _ => ⟨_, rfl, rfl⟩
  have m2 : More (⟨K, w⟩ : Kw) (PySem.W.fnOf "is_tuple" "is_tuple" (defArgs s_is_tuple) (defBody s_is_tuple) (defScope s_is_tuple) (.ref T2) kV2 dc2 pm2 an2 cd2 ct2) (["value", "many"] : List Str) d_is_tuple := ⟨fun j ks h => by
    simp [d_is_tuple] at h
    , fun j ds h => by
    simp only [d_is_tuple, List.mem_cons, List.mem_nil_iff, or_false, Prod.mk.injEq] at h
    rcases h with ⟨rfl, rfl⟩
    · obtain ⟨dus, r, bb⟩ := D2.binds1 (ps := (["value", "many"] : List Str)) 1 0 (by simp) (by decide) fun _ _ _ _ _ _ _ us its hu hi => match us, its, hu, hi with | [_], [_], _, _ => ⟨_, rfl, rfl⟩
      exact ⟨_, dus, bb, r, (KDs.cons KD.non KDs.nil)⟩
    ⟩
  have G3 := fun_mk (st := s_laid_out) l3 c3 k3
  have F3 : FunE (⟨K, w⟩ : Kw) "laid_out" s_laid_out _ _ := FunE.of G3
  have b3 := G3.binds (ps := ["tree", "kinds"]) fun _ _ _ _ _ _ us hl => match us, hl with | [_, _], _ => rfl
  have m3 : More (⟨K, w⟩ : Kw) (PySem.W.fnOf "laid_out" "laid_out" (defArgs s_laid_out) (defBody s_laid_out) (defScope s_laid_out) .none kV3 dc3 pm3 an3 cd3 ct3) (["tree", "kinds"] : List Str) d_laid_out := More.none rfl rfl
  have G4 := fun_mk (st := s_leaf_worth) l4 c4 k4
  have F4 : FunE (⟨K, w⟩ : Kw) "leaf_worth" s_leaf_worth _ _ := FunE.of G4
  have b4 := G4.binds (ps := ["leaf", "sight"]) fun _ _ _ _ _ _ us hl => match us, hl with | [_, _], _ => rfl
  have m4 : More (⟨K, w⟩ : Kw) (PySem.W.fnOf "leaf_worth" "leaf_worth" (defArgs s_leaf_worth) (defBody s_leaf_worth) (defScope s_leaf_worth) .none kV4 dc4 pm4 an4 cd4 ct4) (["leaf", "sight"] : List Str) d_leaf_worth := More.none rfl rfl
  have G5 := fun_mk (st := s_mixed_worth) l5 c5 k5
  have F5 : FunE (⟨K, w⟩ : Kw) "mixed_worth" s_mixed_worth _ _ := FunE.of G5
  have b5 := G5.binds (ps := ["kind", "one", "two"]) fun _ _ _ _ _ _ us hl => match us, hl with | [_, _, _], _ => rfl
  have m5 : More (⟨K, w⟩ : Kw) (PySem.W.fnOf "mixed_worth" "mixed_worth" (defArgs s_mixed_worth) (defBody s_mixed_worth) (defScope s_mixed_worth) .none kV5 dc5 pm5 an5 cd5 ct5) (["kind", "one", "two"] : List Str) d_mixed_worth := More.none rfl rfl
  have G6 := fun_mk (st := s_worth_of) l6 c6 k6
  have F6 : FunE (⟨K, w⟩ : Kw) "worth_of" s_worth_of _ _ := FunE.of G6
  have b6 := G6.binds (ps := ["tree", "sight"]) fun _ _ _ _ _ _ us hl => match us, hl with | [_, _], _ => rfl
  have m6 : More (⟨K, w⟩ : Kw) (PySem.W.fnOf "worth_of" "worth_of" (defArgs s_worth_of) (defBody s_worth_of) (defScope s_worth_of) .none kV6 dc6 pm6 an6 cd6 ct6) (["tree", "sight"] : List Str) d_worth_of := More.none rfl rfl
  have G7 := fun_mk (st := s_compares) l7 c7 k7
  have F7 : FunE (⟨K, w⟩ : Kw) "compares" s_compares _ _ := FunE.of G7
  have b7 := G7.binds (ps := ["leaf", "sight"]) fun _ _ _ _ _ _ us hl => match us, hl with | [_, _], _ => rfl
  have m7 : More (⟨K, w⟩ : Kw) (PySem.W.fnOf "compares" "compares" (defArgs s_compares) (defBody s_compares) (defScope s_compares) .none kV7 dc7 pm7 an7 cd7 ct7) (["leaf", "sight"] : List Str) d_compares := More.none rfl rfl
  have G8 := fun_mk (st := s_holds) l8 c8 k8
  have F8 : FunE (⟨K, w⟩ : Kw) "holds" s_holds _ _ := FunE.of G8
  have b8 := G8.binds (ps := ["condition", "sight"]) fun _ _ _ _ _ _ us hl => match us, hl with | [_, _], _ => rfl
  have m8 : More (⟨K, w⟩ : Kw) (PySem.W.fnOf "holds" "holds" (defArgs s_holds) (defBody s_holds) (defScope s_holds) .none kV8 dc8 pm8 an8 cd8 ct8) (["condition", "sight"] : List Str) d_holds := More.none rfl rfl
  have G9 := fun_mk (st := s_begin_place) l9 c9 k9
  have F9 : FunE (⟨K, w⟩ : Kw) "begin_place" s_begin_place _ _ := FunE.of G9
  have b9 := G9.binds (ps := ["deal"]) fun _ _ _ _ _ _ us hl => match us, hl with | [_], _ => rfl
  have m9 : More (⟨K, w⟩ : Kw) (PySem.W.fnOf "begin_place" "begin_place" (defArgs s_begin_place) (defBody s_begin_place) (defScope s_begin_place) .none kV9 dc9 pm9 an9 cd9 ct9) (["deal"] : List Str) d_begin_place := More.none rfl rfl
  have G10 := fun_mk (st := s_is_over) l10 c10 k10
  have F10 : FunE (⟨K, w⟩ : Kw) "is_over" s_is_over _ _ := FunE.of G10
  have b10 := G10.binds (ps := ["deal", "place"]) fun _ _ _ _ _ _ us hl => match us, hl with | [_, _], _ => rfl
  have m10 : More (⟨K, w⟩ : Kw) (PySem.W.fnOf "is_over" "is_over" (defArgs s_is_over) (defBody s_is_over) (defScope s_is_over) .none kV10 dc10 pm10 an10 cd10 ct10) (["deal", "place"] : List Str) d_is_over := More.none rfl rfl
  have G11 := fun_mk (st := s_seen_seels) l11 c11 k11
  have F11 : FunE (⟨K, w⟩ : Kw) "seen_se\x61ls" s_seen_seels _ _ := FunE.of G11
  have b11 := G11.binds (ps := ["deal", "se\x61ls", "role"]) fun _ _ _ _ _ _ us hl => match us, hl with | [_, _, _], _ => rfl
  have m11 : More (⟨K, w⟩ : Kw) (PySem.W.fnOf "seen_se\x61ls" "seen_se\x61ls" (defArgs s_seen_seels) (defBody s_seen_seels) (defScope s_seen_seels) .none kV11 dc11 pm11 an11 cd11 ct11) (["deal", "se\x61ls", "role"] : List Str) d_seen_seels := More.none rfl rfl
  have G12 := fun_mk (st := s_sight_of) l12 c12 k12
  have F12 : FunE (⟨K, w⟩ : Kw) "sight_of" s_sight_of _ _ := FunE.of G12
  have b12 := G12.binds (ps := ["deal", "place", "role"]) fun _ _ _ _ _ _ us hl => match us, hl with | [_, _, _], _ => rfl
  have m12 : More (⟨K, w⟩ : Kw) (PySem.W.fnOf "sight_of" "sight_of" (defArgs s_sight_of) (defBody s_sight_of) (defScope s_sight_of) .none kV12 dc12 pm12 an12 cd12 ct12) (["deal", "place", "role"] : List Str) d_sight_of := More.none rfl rfl
  have G13 := fun_mk (st := s_outcome_of) l13 c13 k13
  have F13 : FunE (⟨K, w⟩ : Kw) "outcome_of" s_outcome_of _ _ := FunE.of G13
  have b13 := G13.binds (ps := ["deal", "place"]) fun _ _ _ _ _ _ us hl => match us, hl with | [_, _], _ => rfl
  have m13 : More (⟨K, w⟩ : Kw) (PySem.W.fnOf "outcome_of" "outcome_of" (defArgs s_outcome_of) (defBody s_outcome_of) (defScope s_outcome_of) .none kV13 dc13 pm13 an13 cd13 ct13) (["deal", "place"] : List Str) d_outcome_of := More.none rfl rfl
  have G14 := fun_mk (st := s_stepped) l14 c14 k14
  have F14 : FunE (⟨K, w⟩ : Kw) "stepped" s_stepped _ _ := FunE.of G14
  have b14 := G14.binds (ps := ["deal", "counters", "steps", "sight"]) fun _ _ _ _ _ _ us hl => match us, hl with | [_, _, _, _], _ => rfl
  have m14 : More (⟨K, w⟩ : Kw) (PySem.W.fnOf "stepped" "stepped" (defArgs s_stepped) (defBody s_stepped) (defScope s_stepped) .none kV14 dc14 pm14 an14 cd14 ct14) (["deal", "counters", "steps", "sight"] : List Str) d_stepped := More.none rfl rfl
  have G15 := fun_mk (st := s_seels_behind) l15 c15 k15
  have F15 : FunE (⟨K, w⟩ : Kw) "se\x61ls_behind" s_seels_behind _ _ := FunE.of G15
  have b15 := G15.binds (ps := ["deal", "se\x61ls", "kind", "worth"]) fun _ _ _ _ _ _ us hl => match us, hl with | [_, _, _, _], _ => rfl
  have m15 : More (⟨K, w⟩ : Kw) (PySem.W.fnOf "se\x61ls_behind" "se\x61ls_behind" (defArgs s_seels_behind) (defBody s_seels_behind) (defScope s_seels_behind) .none kV15 dc15 pm15 an15 cd15 ct15) (["deal", "se\x61ls", "kind", "worth"] : List Str) d_seels_behind := More.none rfl rfl
  have G16 := fun_mk (st := s_done_once) l16 c16 k16
  have F16 : FunE (⟨K, w⟩ : Kw) "done_once" s_done_once _ _ := FunE.of G16
  have b16 := G16.binds (ps := ["done", "spot"]) fun _ _ _ _ _ _ us hl => match us, hl with | [_, _], _ => rfl
  have m16 : More (⟨K, w⟩ : Kw) (PySem.W.fnOf "done_once" "done_once" (defArgs s_done_once) (defBody s_done_once) (defScope s_done_once) .none kV16 dc16 pm16 an16 cd16 ct16) (["done", "spot"] : List Str) d_done_once := More.none rfl rfl
  have G17 := fun_mk (st := s_deed_behind) l17 c17 k17
  have F17 : FunE (⟨K, w⟩ : Kw) "deed_behind" s_deed_behind _ _ := FunE.of G17
  have b17 := G17.binds (ps := ["deal", "place", "number", "worth"]) fun _ _ _ _ _ _ us hl => match us, hl with | [_, _, _, _], _ => rfl
  have m17 : More (⟨K, w⟩ : Kw) (PySem.W.fnOf "deed_behind" "deed_behind" (defArgs s_deed_behind) (defBody s_deed_behind) (defScope s_deed_behind) .none kV17 dc17 pm17 an17 cd17 ct17) (["deal", "place", "number", "worth"] : List Str) d_deed_behind := More.none rfl rfl
  have G18 := fun_mk (st := s_call_behind) l18 c18 k18
  have F18 : FunE (⟨K, w⟩ : Kw) "call_behind" s_call_behind _ _ := FunE.of G18
  have b18 := G18.binds (ps := ["deal", "place", "number"]) fun _ _ _ _ _ _ us hl => match us, hl with | [_, _, _], _ => rfl
  have m18 : More (⟨K, w⟩ : Kw) (PySem.W.fnOf "call_behind" "call_behind" (defArgs s_call_behind) (defBody s_call_behind) (defScope s_call_behind) .none kV18 dc18 pm18 an18 cd18 ct18) (["deal", "place", "number"] : List Str) d_call_behind := More.none rfl rfl
  have G19 := fun_mk (st := s_pass_behind) l19 c19 k19
  have F19 : FunE (⟨K, w⟩ : Kw) "pass_behind" s_pass_behind _ _ := FunE.of G19
  have b19 := G19.binds (ps := ["deal", "place", "role"]) fun _ _ _ _ _ _ us hl => match us, hl with | [_, _, _], _ => rfl
  have m19 : More (⟨K, w⟩ : Kw) (PySem.W.fnOf "pass_behind" "pass_behind" (defArgs s_pass_behind) (defBody s_pass_behind) (defScope s_pass_behind) .none kV19 dc19 pm19 an19 cd19 ct19) (["deal", "place", "role"] : List Str) d_pass_behind := More.none rfl rfl
  have G20 := fun_mk (st := s_dawn_behind) l20 c20 k20
  have F20 : FunE (⟨K, w⟩ : Kw) "dawn_behind" s_dawn_behind _ _ := FunE.of G20
  have b20 := G20.binds (ps := ["deal", "place"]) fun _ _ _ _ _ _ us hl => match us, hl with | [_, _], _ => rfl
  have m20 : More (⟨K, w⟩ : Kw) (PySem.W.fnOf "dawn_behind" "dawn_behind" (defArgs s_dawn_behind) (defBody s_dawn_behind) (defScope s_dawn_behind) .none kV20 dc20 pm20 an20 cd20 ct20) (["deal", "place"] : List Str) d_dawn_behind := More.none rfl rfl
  have G21 := fun_mk (st := s_told_outcome) l21 c21 k21
  have F21 : FunE (⟨K, w⟩ : Kw) "told_outcome" s_told_outcome _ _ := FunE.of G21
  have b21 := G21.binds (ps := ["deal", "place", "number", "outcome"]) fun _ _ _ _ _ _ us hl => match us, hl with | [_, _, _, _], _ => rfl
  have m21 : More (⟨K, w⟩ : Kw) (PySem.W.fnOf "told_outcome" "told_outcome" (defArgs s_told_outcome) (defBody s_told_outcome) (defScope s_told_outcome) .none kV21 dc21 pm21 an21 cd21 ct21) (["deal", "place", "number", "outcome"] : List Str) d_told_outcome := More.none rfl rfl
  have G22 := fun_mk (st := s_begin_state) l22 c22 k22
  have F22 : FunE (⟨K, w⟩ : Kw) "begin_state" s_begin_state _ _ := FunE.of G22
  have b22 := G22.binds (ps := ["book"]) fun _ _ _ _ _ _ us hl => match us, hl with | [_], _ => rfl
  have m22 : More (⟨K, w⟩ : Kw) (PySem.W.fnOf "begin_state" "begin_state" (defArgs s_begin_state) (defBody s_begin_state) (defScope s_begin_state) .none kV22 dc22 pm22 an22 cd22 ct22) (["book"] : List Str) d_begin_state := More.none rfl rfl
  have G23 := fun_mk (st := s_place_behind) l23 c23 k23
  have F23 : FunE (⟨K, w⟩ : Kw) "place_behind" s_place_behind _ _ := FunE.of G23
  have b23 := G23.binds (ps := ["deal", "place", "row"]) fun _ _ _ _ _ _ us hl => match us, hl with | [_, _, _], _ => rfl
  have m23 : More (⟨K, w⟩ : Kw) (PySem.W.fnOf "place_behind" "place_behind" (defArgs s_place_behind) (defBody s_place_behind) (defScope s_place_behind) .none kV23 dc23 pm23 an23 cd23 ct23) (["deal", "place", "row"] : List Str) d_place_behind := More.none rfl rfl
  have G24 := fun_mk (st := s_step_row) l24 c24 k24
  have F24 : FunE (⟨K, w⟩ : Kw) "step_row" s_step_row _ _ := FunE.of G24
  have b24 := G24.binds (ps := ["book", "state", "row"]) fun _ _ _ _ _ _ us hl => match us, hl with | [_, _, _], _ => rfl
  have m24 : More (⟨K, w⟩ : Kw) (PySem.W.fnOf "step_row" "step_row" (defArgs s_step_row) (defBody s_step_row) (defScope s_step_row) .none kV24 dc24 pm24 an24 cd24 ct24) (["book", "state", "row"] : List Str) d_step_row := More.none rfl rfl
  have G25 := fun_mk (st := s_open_holds) l25 c25 k25
  have F25 : FunE (⟨K, w⟩ : Kw) "open_holds" s_open_holds _ _ := FunE.of G25
  have b25 := G25.binds (ps := ["deal", "place", "condition"]) fun _ _ _ _ _ _ us hl => match us, hl with | [_, _, _], _ => rfl
  have m25 : More (⟨K, w⟩ : Kw) (PySem.W.fnOf "open_holds" "open_holds" (defArgs s_open_holds) (defBody s_open_holds) (defScope s_open_holds) .none kV25 dc25 pm25 an25 cd25 ct25) (["deal", "place", "condition"] : List Str) d_open_holds := More.none rfl rfl
  have G26 := fun_mk (st := s_is_kept) l26 c26 k26
  have F26 : FunE (⟨K, w⟩ : Kw) "is_kept" s_is_kept _ _ := FunE.of G26
  have b26 := G26.binds (ps := ["deal", "promise", "place", "is_dawn"]) fun _ _ _ _ _ _ us hl => match us, hl with | [_, _, _, _], _ => rfl
  have m26 : More (⟨K, w⟩ : Kw) (PySem.W.fnOf "is_kept" "is_kept" (defArgs s_is_kept) (defBody s_is_kept) (defScope s_is_kept) .none kV26 dc26 pm26 an26 cd26 ct26) (["deal", "promise", "place", "is_dawn"] : List Str) d_is_kept := ⟨fun j ks h => by
    simp only [d_is_kept, List.mem_cons, List.mem_nil_iff, or_false, Prod.mk.injEq] at h
    rcases h with ⟨rfl, rfl⟩
    · exact kb_of (fun us ws hu hw => match us, ws, hu, hw with | [_, _, _], [_], _, _ => rfl) rfl (by decide)
    , fun j ds h => by
    simp [d_is_kept] at h
    ⟩
  have G27 := fun_mk (st := s_broken) l27 c27 k27
  have F27 : FunE (⟨K, w⟩ : Kw) "broken" s_broken _ _ := FunE.of G27
  have b27 := G27.binds (ps := ["book", "rows"]) fun _ _ _ _ _ _ us hl => match us, hl with | [_, _], _ => rfl
  have m27 : More (⟨K, w⟩ : Kw) (PySem.W.fnOf "broken" "broken" (defArgs s_broken) (defBody s_broken) (defScope s_broken) .none kV27 dc27 pm27 an27 cd27 ct27) (["book", "rows"] : List Str) d_broken := More.none rfl rfl
  have G28 := fun_mk (st := s_known_begin) l28 c28 k28
  have F28 : FunE (⟨K, w⟩ : Kw) "known_begin" s_known_begin _ _ := FunE.of G28
  have b28 := G28.binds (ps := ["deal", "roles"]) fun _ _ _ _ _ _ us hl => match us, hl with | [_, _], _ => rfl
  have m28 : More (⟨K, w⟩ : Kw) (PySem.W.fnOf "known_begin" "known_begin" (defArgs s_known_begin) (defBody s_known_begin) (defScope s_known_begin) .none kV28 dc28 pm28 an28 cd28 ct28) (["deal", "roles"] : List Str) d_known_begin := More.none rfl rfl
  have G29 := fun_mk (st := s__law_box) l29 c29 k29
  have F29 : FunE (⟨K, w⟩ : Kw) "_law_box" s__law_box _ _ := FunE.of G29
  have b29 := G29.binds (ps := ["script", "k"]) fun _ _ _ _ _ _ us hl => match us, hl with | [_, _], _ => rfl
  have m29 : More (⟨K, w⟩ : Kw) (PySem.W.fnOf "_law_box" "_law_box" (defArgs s__law_box) (defBody s__law_box) (defScope s__law_box) .none kV29 dc29 pm29 an29 cd29 ct29) (["script", "k"] : List Str) d__law_box := More.none rfl rfl
  have G30 := fun_mk (st := s__law_take) l30 c30 k30
  have F30 : FunE (⟨K, w⟩ : Kw) "_law_take" s__law_take _ _ := FunE.of G30
  have b30 := G30.binds (ps := ["box", "many"]) fun _ _ _ _ _ _ us hl => match us, hl with | [_, _], _ => rfl
  have m30 : More (⟨K, w⟩ : Kw) (PySem.W.fnOf "_law_take" "_law_take" (defArgs s__law_take) (defBody s__law_take) (defScope s__law_take) .none kV30 dc30 pm30 an30 cd30 ct30) (["box", "many"] : List Str) d__law_take := More.none rfl rfl
  have G31 := fun_mk (st := s__law_pick) l31 c31 k31
  have F31 : FunE (⟨K, w⟩ : Kw) "_law_pick" s__law_pick _ _ := FunE.of G31
  have b31 := G31.binds (ps := ["box", "some"]) fun _ _ _ _ _ _ us hl => match us, hl with | [_, _], _ => rfl
  have m31 : More (⟨K, w⟩ : Kw) (PySem.W.fnOf "_law_pick" "_law_pick" (defArgs s__law_pick) (defBody s__law_pick) (defScope s__law_pick) .none kV31 dc31 pm31 an31 cd31 ct31) (["box", "some"] : List Str) d__law_pick := More.none rfl rfl
  have G32 := fun_mk (st := s__law_same) l32 c32 k32
  have F32 : FunE (⟨K, w⟩ : Kw) "_law_same" s__law_same _ _ := FunE.of G32
  have b32 := G32.binds (ps := ["told", "due"]) fun _ _ _ _ _ _ us hl => match us, hl with | [_, _], _ => rfl
  have m32 : More (⟨K, w⟩ : Kw) (PySem.W.fnOf "_law_same" "_law_same" (defArgs s__law_same) (defBody s__law_same) (defScope s__law_same) .none kV32 dc32 pm32 an32 cd32 ct32) (["told", "due"] : List Str) d__law_same := More.none rfl rfl
  have G33 := fun_mk (st := s__law_sum) l33 c33 k33
  have F33 : FunE (⟨K, w⟩ : Kw) "_law_sum" s__law_sum _ _ := FunE.of G33
  have b33 := G33.binds (ps := ["told", "place", "sees"]) fun _ _ _ _ _ _ us hl => match us, hl with | [_, _, _], _ => rfl
  have m33 : More (⟨K, w⟩ : Kw) (PySem.W.fnOf "_law_sum" "_law_sum" (defArgs s__law_sum) (defBody s__law_sum) (defScope s__law_sum) .none kV33 dc33 pm33 an33 cd33 ct33) (["told", "place", "sees"] : List Str) d__law_sum := More.none rfl rfl
  have G34 := fun_mk (st := s__law_holds) l34 c34 k34
  have F34 : FunE (⟨K, w⟩ : Kw) "_law_holds" s__law_holds _ _ := FunE.of G34
  have b34 := G34.binds (ps := ["told", "place", "sees"]) fun _ _ _ _ _ _ us hl => match us, hl with | [_, _, _], _ => rfl
  have m34 : More (⟨K, w⟩ : Kw) (PySem.W.fnOf "_law_holds" "_law_holds" (defArgs s__law_holds) (defBody s__law_holds) (defScope s__law_holds) .none kV34 dc34 pm34 an34 cd34 ct34) (["told", "place", "sees"] : List Str) d__law_holds := More.none rfl rfl
  have G35 := fun_mk (st := s__law_sees) l35 c35 k35
  have F35 : FunE (⟨K, w⟩ : Kw) "_law_sees" s__law_sees _ _ := FunE.of G35
  have b35 := G35.binds (ps := ["deal", "place", "role"]) fun _ _ _ _ _ _ us hl => match us, hl with | [_, _, _], _ => rfl
  have m35 : More (⟨K, w⟩ : Kw) (PySem.W.fnOf "_law_sees" "_law_sees" (defArgs s__law_sees) (defBody s__law_sees) (defScope s__law_sees) .none kV35 dc35 pm35 an35 cd35 ct35) (["deal", "place", "role"] : List Str) d__law_sees := More.none rfl rfl
  have G36 := fun_mk (st := s__law_first) l36 c36 k36
  have F36 : FunE (⟨K, w⟩ : Kw) "_law_first" s__law_first _ _ := FunE.of G36
  have b36 := G36.binds (ps := ["deal"]) fun _ _ _ _ _ _ us hl => match us, hl with | [_], _ => rfl
  have m36 : More (⟨K, w⟩ : Kw) (PySem.W.fnOf "_law_first" "_law_first" (defArgs s__law_first) (defBody s__law_first) (defScope s__law_first) .none kV36 dc36 pm36 an36 cd36 ct36) (["deal"] : List Str) d__law_first := More.none rfl rfl
  have G37 := fun_mk (st := s__law_stepped) l37 c37 k37
  have F37 : FunE (⟨K, w⟩ : Kw) "_law_stepped" s__law_stepped _ _ := FunE.of G37
  have b37 := G37.binds (ps := ["deal", "place", "role", "steps"]) fun _ _ _ _ _ _ us hl => match us, hl with | [_, _, _, _], _ => rfl
  have m37 : More (⟨K, w⟩ : Kw) (PySem.W.fnOf "_law_stepped" "_law_stepped" (defArgs s__law_stepped) (defBody s__law_stepped) (defScope s__law_stepped) .none kV37 dc37 pm37 an37 cd37 ct37) (["deal", "place", "role", "steps"] : List Str) d__law_stepped := More.none rfl rfl
  have G38 := fun_mk (st := s__law_done) l38 c38 k38
  have F38 : FunE (⟨K, w⟩ : Kw) "_law_done" s__law_done _ _ := FunE.of G38
  have b38 := G38.binds (ps := ["deal", "place", "number", "worth"]) fun _ _ _ _ _ _ us hl => match us, hl with | [_, _, _, _], _ => rfl
  have m38 : More (⟨K, w⟩ : Kw) (PySem.W.fnOf "_law_done" "_law_done" (defArgs s__law_done) (defBody s__law_done) (defScope s__law_done) .none kV38 dc38 pm38 an38 cd38 ct38) (["deal", "place", "number", "worth"] : List Str) d__law_done := More.none rfl rfl
  have G39 := fun_mk (st := s__law_dawn) l39 c39 k39
  have F39 : FunE (⟨K, w⟩ : Kw) "_law_dawn" s__law_dawn _ _ := FunE.of G39
  have b39 := G39.binds (ps := ["place"]) fun _ _ _ _ _ _ us hl => match us, hl with | [_], _ => rfl
  have m39 : More (⟨K, w⟩ : Kw) (PySem.W.fnOf "_law_dawn" "_law_dawn" (defArgs s__law_dawn) (defBody s__law_dawn) (defScope s__law_dawn) .none kV39 dc39 pm39 an39 cd39 ct39) (["place"] : List Str) d__law_dawn := More.none rfl rfl
  have G40 := fun_mk (st := s__law_worths) l40 c40 k40
  have F40 : FunE (⟨K, w⟩ : Kw) "_law_worths" s__law_worths _ _ := FunE.of G40
  have b40 := G40.binds (ps := ["deal", "place", "number"]) fun _ _ _ _ _ _ us hl => match us, hl with | [_, _, _], _ => rfl
  have m40 : More (⟨K, w⟩ : Kw) (PySem.W.fnOf "_law_worths" "_law_worths" (defArgs s__law_worths) (defBody s__law_worths) (defScope s__law_worths) .none kV40 dc40 pm40 an40 cd40 ct40) (["deal", "place", "number"] : List Str) d__law_worths := More.none rfl rfl
  have G41 := fun_mk (st := s__law_rows) l41 c41 k41
  have F41 : FunE (⟨K, w⟩ : Kw) "_law_rows" s__law_rows _ _ := FunE.of G41
  have b41 := G41.binds (ps := ["deal", "place"]) fun _ _ _ _ _ _ us hl => match us, hl with | [_, _], _ => rfl
  have m41 : More (⟨K, w⟩ : Kw) (PySem.W.fnOf "_law_rows" "_law_rows" (defArgs s__law_rows) (defBody s__law_rows) (defScope s__law_rows) .none kV41 dc41 pm41 an41 cd41 ct41) (["deal", "place"] : List Str) d__law_rows := More.none rfl rfl
  have G42 := fun_mk (st := s__law_is_small) l42 c42 k42
  have F42 : FunE (⟨K, w⟩ : Kw) "_law_is_small" s__law_is_small _ _ := FunE.of G42
  have b42 := G42.binds (ps := ["deal", "most"]) fun _ _ _ _ _ _ us hl => match us, hl with | [_, _], _ => rfl
  have m42 : More (⟨K, w⟩ : Kw) (PySem.W.fnOf "_law_is_small" "_law_is_small" (defArgs s__law_is_small) (defBody s__law_is_small) (defScope s__law_is_small) .none kV42 dc42 pm42 an42 cd42 ct42) (["deal", "most"] : List Str) d__law_is_small := More.none rfl rfl
  have G43 := fun_mk (st := s__law_number) l43 c43 k43
  have F43 : FunE (⟨K, w⟩ : Kw) "_law_number" s__law_number _ _ := FunE.of G43
  have b43 := G43.binds (ps := ["box", "deal"]) fun _ _ _ _ _ _ us hl => match us, hl with | [_, _], _ => rfl
  have m43 : More (⟨K, w⟩ : Kw) (PySem.W.fnOf "_law_number" "_law_number" (defArgs s__law_number) (defBody s__law_number) (defScope s__law_number) .none kV43 dc43 pm43 an43 cd43 ct43) (["box", "deal"] : List Str) d__law_number := More.none rfl rfl
  have G44 := fun_mk (st := s__law_when) l44 c44 k44
  have F44 : FunE (⟨K, w⟩ : Kw) "_law_when" s__law_when _ _ := FunE.of G44
  have b44 := G44.binds (ps := ["box", "deal", "deep"]) fun _ _ _ _ _ _ us hl => match us, hl with | [_, _, _], _ => rfl
  have m44 : More (⟨K, w⟩ : Kw) (PySem.W.fnOf "_law_when" "_law_when" (defArgs s__law_when) (defBody s__law_when) (defScope s__law_when) .none kV44 dc44 pm44 an44 cd44 ct44) (["box", "deal", "deep"] : List Str) d__law_when := More.none rfl rfl
  have G45 := fun_mk (st := s__law_any_deal) l45 c45 k45
  have F45 : FunE (⟨K, w⟩ : Kw) "_law_any_deal" s__law_any_deal _ _ := FunE.of G45
  have b45 := G45.binds (ps := ["box", "name", "roles"]) fun _ _ _ _ _ _ us hl => match us, hl with | [_, _, _], _ => rfl
  have m45 : More (⟨K, w⟩ : Kw) (PySem.W.fnOf "_law_any_deal" "_law_any_deal" (defArgs s__law_any_deal) (defBody s__law_any_deal) (defScope s__law_any_deal) .none kV45 dc45 pm45 an45 cd45 ct45) (["box", "name", "roles"] : List Str) d__law_any_deal := More.none rfl rfl
  have G46 := fun_mk (st := s__law_promise) l46 c46 k46
  have F46 : FunE (⟨K, w⟩ : Kw) "_law_promise" s__law_promise _ _ := FunE.of G46
  have b46 := G46.binds (ps := ["box", "deal", "role"]) fun _ _ _ _ _ _ us hl => match us, hl with | [_, _, _], _ => rfl
  have m46 : More (⟨K, w⟩ : Kw) (PySem.W.fnOf "_law_promise" "_law_promise" (defArgs s__law_promise) (defBody s__law_promise) (defScope s__law_promise) .none kV46 dc46 pm46 an46 cd46 ct46) (["box", "deal", "role"] : List Str) d__law_promise := More.none rfl rfl
  have G47 := fun_mk (st := s__law_swap) l47 c47 k47
  have F47 : FunE (⟨K, w⟩ : Kw) "_law_swap" s__law_swap _ _ := FunE.of G47
  have b47 := G47.binds (ps := []) fun _ _ _ _ _ _ us hl => match us, hl with | [], _ => rfl
  have m47 : More (⟨K, w⟩ : Kw) (PySem.W.fnOf "_law_swap" "_law_swap" (defArgs s__law_swap) (defBody s__law_swap) (defScope s__law_swap) .none kV47 dc47 pm47 an47 cd47 ct47) ([] : List Str) d__law_swap := More.none rfl rfl
  have G48 := fun_mk (st := s__law_deal) l48 c48 k48
  have F48 : FunE (⟨K, w⟩ : Kw) "_law_deal" s__law_deal _ _ := FunE.of G48
  have b48 := G48.binds (ps := ["box", "most"]) fun _ _ _ _ _ _ us hl => match us, hl with | [_, _], _ => rfl
  have m48 : More (⟨K, w⟩ : Kw) (PySem.W.fnOf "_law_deal" "_law_deal" (defArgs s__law_deal) (defBody s__law_deal) (defScope s__law_deal) .none kV48 dc48 pm48 an48 cd48 ct48) (["box", "most"] : List Str) d__law_deal := More.none rfl rfl
  have G49 := fun_mk (st := s__law_caller) l49 c49 k49
  have F49 : FunE (⟨K, w⟩ : Kw) "_law_caller" s__law_caller _ _ := FunE.of G49
  have b49 := G49.binds (ps := ["box", "most", "number", "many", "name"]) fun _ _ _ _ _ _ us hl => match us, hl with | [_, _, _, _, _], _ => rfl
  have m49 : More (⟨K, w⟩ : Kw) (PySem.W.fnOf "_law_caller" "_law_caller" (defArgs s__law_caller) (defBody s__law_caller) (defScope s__law_caller) .none kV49 dc49 pm49 an49 cd49 ct49) (["box", "most", "number", "many", "name"] : List Str) d__law_caller := More.none rfl rfl
  have G50 := fun_mk (st := s__law_with_call) l50 c50 k50
  have F50 : FunE (⟨K, w⟩ : Kw) "_law_with_call" s__law_with_call _ _ := FunE.of G50
  have b50 := G50.binds (ps := ["box", "most"]) fun _ _ _ _ _ _ us hl => match us, hl with | [_, _], _ => rfl
  have m50 : More (⟨K, w⟩ : Kw) (PySem.W.fnOf "_law_with_call" "_law_with_call" (defArgs s__law_with_call) (defBody s__law_with_call) (defScope s__law_with_call) .none kV50 dc50 pm50 an50 cd50 ct50) (["box", "most"] : List Str) d__law_with_call := More.none rfl rfl
  have G51 := fun_mk (st := s__law_breaks) l51 c51 k51
  have F51 : FunE (⟨K, w⟩ : Kw) "_law_breaks" s__law_breaks _ _ := FunE.of G51
  have b51 := G51.binds (ps := ["deal", "promise", "place", "risen"]) fun _ _ _ _ _ _ us hl => match us, hl with | [_, _, _, _], _ => rfl
  have m51 : More (⟨K, w⟩ : Kw) (PySem.W.fnOf "_law_breaks" "_law_breaks" (defArgs s__law_breaks) (defBody s__law_breaks) (defScope s__law_breaks) .none kV51 dc51 pm51 an51 cd51 ct51) (["deal", "promise", "place", "risen"] : List Str) d__law_breaks := More.none rfl rfl
  have G52 := fun_mk (st := s__law_hidden) l52 c52 k52
  have F52 : FunE (⟨K, w⟩ : Kw) "_law_hidden" s__law_hidden _ _ := FunE.of G52
  have b52 := G52.binds (ps := ["deal", "lot", "place"]) fun _ _ _ _ _ _ us hl => match us, hl with | [_, _, _], _ => rfl
  have m52 : More (⟨K, w⟩ : Kw) (PySem.W.fnOf "_law_hidden" "_law_hidden" (defArgs s__law_hidden) (defBody s__law_hidden) (defScope s__law_hidden) .none kV52 dc52 pm52 an52 cd52 ct52) (["deal", "lot", "place"] : List Str) d__law_hidden := More.none rfl rfl
  have G53 := fun_mk (st := s__law_book) l53 c53 k53
  have F53 : FunE (⟨K, w⟩ : Kw) "_law_book" s__law_book _ _ := FunE.of G53
  have b53 := G53.binds (ps := ["box", "most"]) fun _ _ _ _ _ _ us hl => match us, hl with | [_, _], _ => rfl
  have m53 : More (⟨K, w⟩ : Kw) (PySem.W.fnOf "_law_book" "_law_book" (defArgs s__law_book) (defBody s__law_book) (defScope s__law_book) .none kV53 dc53 pm53 an53 cd53 ct53) (["box", "most"] : List Str) d__law_book := More.none rfl rfl
  have G54 := fun_mk (st := s__law_start) l54 c54 k54
  have F54 : FunE (⟨K, w⟩ : Kw) "_law_start" s__law_start _ _ := FunE.of G54
  have b54 := G54.binds (ps := ["book"]) fun _ _ _ _ _ _ us hl => match us, hl with | [_], _ => rfl
  have m54 : More (⟨K, w⟩ : Kw) (PySem.W.fnOf "_law_start" "_law_start" (defArgs s__law_start) (defBody s__law_start) (defScope s__law_start) .none kV54 dc54 pm54 an54 cd54 ct54) (["book"] : List Str) d__law_start := More.none rfl rfl
  have G55 := fun_mk (st := s__law_outcome) l55 c55 k55
  have F55 : FunE (⟨K, w⟩ : Kw) "_law_outcome" s__law_outcome _ _ := FunE.of G55
  have b55 := G55.binds (ps := ["deal", "place"]) fun _ _ _ _ _ _ us hl => match us, hl with | [_, _], _ => rfl
  have m55 : More (⟨K, w⟩ : Kw) (PySem.W.fnOf "_law_outcome" "_law_outcome" (defArgs s__law_outcome) (defBody s__law_outcome) (defScope s__law_outcome) .none kV55 dc55 pm55 an55 cd55 ct55) (["deal", "place"] : List Str) d__law_outcome := More.none rfl rfl
  have G56 := fun_mk (st := s__law_state_rows) l56 c56 k56
  have F56 : FunE (⟨K, w⟩ : Kw) "_law_state_rows" s__law_state_rows _ _ := FunE.of G56
  have b56 := G56.binds (ps := ["book", "state"]) fun _ _ _ _ _ _ us hl => match us, hl with | [_, _], _ => rfl
  have m56 : More (⟨K, w⟩ : Kw) (PySem.W.fnOf "_law_state_rows" "_law_state_rows" (defArgs s__law_state_rows) (defBody s__law_state_rows) (defScope s__law_state_rows) .none kV56 dc56 pm56 an56 cd56 ct56) (["book", "state"] : List Str) d__law_state_rows := More.none rfl rfl
  have G57 := fun_mk (st := s__law_risen) l57 c57 k57
  have F57 : FunE (⟨K, w⟩ : Kw) "_law_risen" s__law_risen _ _ := FunE.of G57
  have b57 := G57.binds (ps := ["book", "state", "behind"]) fun _ _ _ _ _ _ us hl => match us, hl with | [_, _, _], _ => rfl
  have m57 : More (⟨K, w⟩ : Kw) (PySem.W.fnOf "_law_risen" "_law_risen" (defArgs s__law_risen) (defBody s__law_risen) (defScope s__law_risen) .none kV57 dc57 pm57 an57 cd57 ct57) (["book", "state", "behind"] : List Str) d__law_risen := More.none rfl rfl
  have G58 := fun_mk (st := s__law_run) l58 c58 k58
  have F58 : FunE (⟨K, w⟩ : Kw) "_law_run" s__law_run _ _ := FunE.of G58
  have b58 := G58.binds (ps := ["box", "book", "most"]) fun _ _ _ _ _ _ us hl => match us, hl with | [_, _, _], _ => rfl
  have m58 : More (⟨K, w⟩ : Kw) (PySem.W.fnOf "_law_run" "_law_run" (defArgs s__law_run) (defBody s__law_run) (defScope s__law_run) .none kV58 dc58 pm58 an58 cd58 ct58) (["box", "book", "most"] : List Str) d__law_run := More.none rfl rfl
  have G59 := fun_mk (st := s__law_broken) l59 c59 k59
  have F59 : FunE (⟨K, w⟩ : Kw) "_law_broken" s__law_broken _ _ := FunE.of G59
  have b59 := G59.binds (ps := ["book", "states", "rows"]) fun _ _ _ _ _ _ us hl => match us, hl with | [_, _, _], _ => rfl
  have m59 : More (⟨K, w⟩ : Kw) (PySem.W.fnOf "_law_broken" "_law_broken" (defArgs s__law_broken) (defBody s__law_broken) (defScope s__law_broken) .none kV59 dc59 pm59 an59 cd59 ct59) (["book", "states", "rows"] : List Str) d__law_broken := More.none rfl rfl
  have G60 := fun_mk (st := s_law) l60 c60 k60
  have F60 : FunE (⟨K, w⟩ : Kw) "law" s_law _ _ := FunE.of G60
  have b60 := G60.binds (ps := ["script"]) fun _ _ _ _ _ _ us hl => match us, hl with | [_], _ => rfl
  have m60 : More (⟨K, w⟩ : Kw) (PySem.W.fnOf "law" "law" (defArgs s_law) (defBody s_law) (defScope s_law) .none kV60 dc60 pm60 an60 cd60 ct60) (["script"] : List Str) d_law := More.none rfl rfl
  have T : TabOk (⟨K, w⟩ : Kw) mg L cst := ⟨fns_cons (.mk' rfl F0 sc_is_int ck_is_int (PySem.W.mg_of X G a0) b0 m0) (fns_cons (.mk' rfl F1 sc_is_number ck_is_number (PySem.W.mg_of X G a1) b1 m1) (fns_cons (.mk' rfl F2 sc_is_tuple ck_is_tuple (PySem.W.mg_of X G a2) b2 m2) (fns_cons (.mk' rfl F3 sc_laid_out ck_laid_out (PySem.W.mg_of X G a3) b3 m3) (fns_cons (.mk' rfl F4 sc_leaf_worth ck_leaf_worth (PySem.W.mg_of X G a4) b4 m4) (fns_cons (.mk' rfl F5 sc_mixed_worth ck_mixed_worth (PySem.W.mg_of X G a5) b5 m5) (fns_cons (.mk' rfl F6 sc_worth_of ck_worth_of (PySem.W.mg_of X G a6) b6 m6) (fns_cons (.mk' rfl F7 sc_compares ck_compares (PySem.W.mg_of X G a7) b7 m7) (fns_cons (.mk' rfl F8 sc_holds ck_holds (PySem.W.mg_of X G a8) b8 m8) (fns_cons (.mk' rfl F9 sc_begin_place ck_begin_place (PySem.W.mg_of X G a9) b9 m9) (fns_cons (.mk' rfl F10 sc_is_over ck_is_over (PySem.W.mg_of X G a10) b10 m10) (fns_cons (.mk' rfl F11 sc_seen_seels ck_seen_seels (PySem.W.mg_of X G a11) b11 m11) (fns_cons (.mk' rfl F12 sc_sight_of ck_sight_of (PySem.W.mg_of X G a12) b12 m12) (fns_cons (.mk' rfl F13 sc_outcome_of ck_outcome_of (PySem.W.mg_of X G a13) b13 m13) (fns_cons (.mk' rfl F14 sc_stepped ck_stepped (PySem.W.mg_of X G a14) b14 m14) (fns_cons (.mk' rfl F15 sc_seels_behind ck_seels_behind (PySem.W.mg_of X G a15) b15 m15) (fns_cons (.mk' rfl F16 sc_done_once ck_done_once (PySem.W.mg_of X G a16) b16 m16) (fns_cons (.mk' rfl F17 sc_deed_behind ck_deed_behind (PySem.W.mg_of X G a17) b17 m17) (fns_cons (.mk' rfl F18 sc_call_behind ck_call_behind (PySem.W.mg_of X G a18) b18 m18) (fns_cons (.mk' rfl F19 sc_pass_behind ck_pass_behind (PySem.W.mg_of X G a19) b19 m19) (fns_cons (.mk' rfl F20 sc_dawn_behind ck_dawn_behind (PySem.W.mg_of X G a20) b20 m20) (fns_cons (.mk' rfl F21 sc_told_outcome ck_told_outcome (PySem.W.mg_of X G a21) b21 m21) (fns_cons (.mk' rfl F22 sc_begin_state ck_begin_state (PySem.W.mg_of X G a22) b22 m22) (fns_cons (.mk' rfl F23 sc_place_behind ck_place_behind (PySem.W.mg_of X G a23) b23 m23) (fns_cons (.mk' rfl F24 sc_step_row ck_step_row (PySem.W.mg_of X G a24) b24 m24) (fns_cons (.mk' rfl F25 sc_open_holds ck_open_holds (PySem.W.mg_of X G a25) b25 m25) (fns_cons (.mk' rfl F26 sc_is_kept ck_is_kept (PySem.W.mg_of X G a26) b26 m26) (fns_cons (.mk' rfl F27 sc_broken ck_broken (PySem.W.mg_of X G a27) b27 m27) (fns_cons (.mk' rfl F28 sc_known_begin ck_known_begin (PySem.W.mg_of X G a28) b28 m28) (fns_cons (.mk' rfl F29 sc__law_box ck__law_box (PySem.W.mg_of X G a29) b29 m29) (fns_cons (.mk' rfl F30 sc__law_take ck__law_take (PySem.W.mg_of X G a30) b30 m30) (fns_cons (.mk' rfl F31 sc__law_pick ck__law_pick (PySem.W.mg_of X G a31) b31 m31) (fns_cons (.mk' rfl F32 sc__law_same ck__law_same (PySem.W.mg_of X G a32) b32 m32) (fns_cons (.mk' rfl F33 sc__law_sum ck__law_sum (PySem.W.mg_of X G a33) b33 m33) (fns_cons (.mk' rfl F34 sc__law_holds ck__law_holds (PySem.W.mg_of X G a34) b34 m34) (fns_cons (.mk' rfl F35 sc__law_sees ck__law_sees (PySem.W.mg_of X G a35) b35 m35) (fns_cons (.mk' rfl F36 sc__law_first ck__law_first (PySem.W.mg_of X G a36) b36 m36) (fns_cons (.mk' rfl F37 sc__law_stepped ck__law_stepped (PySem.W.mg_of X G a37) b37 m37) (fns_cons (.mk' rfl F38 sc__law_done ck__law_done (PySem.W.mg_of X G a38) b38 m38) (fns_cons (.mk' rfl F39 sc__law_dawn ck__law_dawn (PySem.W.mg_of X G a39) b39 m39) (fns_cons (.mk' rfl F40 sc__law_worths ck__law_worths (PySem.W.mg_of X G a40) b40 m40) (fns_cons (.mk' rfl F41 sc__law_rows ck__law_rows (PySem.W.mg_of X G a41) b41 m41) (fns_cons (.mk' rfl F42 sc__law_is_small ck__law_is_small (PySem.W.mg_of X G a42) b42 m42) (fns_cons (.mk' rfl F43 sc__law_number ck__law_number (PySem.W.mg_of X G a43) b43 m43) (fns_cons (.mk' rfl F44 sc__law_when ck__law_when (PySem.W.mg_of X G a44) b44 m44) (fns_cons (.mk' rfl F45 sc__law_any_deal ck__law_any_deal (PySem.W.mg_of X G a45) b45 m45) (fns_cons (.mk' rfl F46 sc__law_promise ck__law_promise (PySem.W.mg_of X G a46) b46 m46) (fns_cons (.mk' rfl F47 sc__law_swap ck__law_swap (PySem.W.mg_of X G a47) b47 m47) (fns_cons (.mk' rfl F48 sc__law_deal ck__law_deal (PySem.W.mg_of X G a48) b48 m48) (fns_cons (.mk' rfl F49 sc__law_caller ck__law_caller (PySem.W.mg_of X G a49) b49 m49) (fns_cons (.mk' rfl F50 sc__law_with_call ck__law_with_call (PySem.W.mg_of X G a50) b50 m50) (fns_cons (.mk' rfl F51 sc__law_breaks ck__law_breaks (PySem.W.mg_of X G a51) b51 m51) (fns_cons (.mk' rfl F52 sc__law_hidden ck__law_hidden (PySem.W.mg_of X G a52) b52 m52) (fns_cons (.mk' rfl F53 sc__law_book ck__law_book (PySem.W.mg_of X G a53) b53 m53) (fns_cons (.mk' rfl F54 sc__law_start ck__law_start (PySem.W.mg_of X G a54) b54 m54) (fns_cons (.mk' rfl F55 sc__law_outcome ck__law_outcome (PySem.W.mg_of X G a55) b55 m55) (fns_cons (.mk' rfl F56 sc__law_state_rows ck__law_state_rows (PySem.W.mg_of X G a56) b56 m56) (fns_cons (.mk' rfl F57 sc__law_risen ck__law_risen (PySem.W.mg_of X G a57) b57 m57) (fns_cons (.mk' rfl F58 sc__law_run ck__law_run (PySem.W.mg_of X G a58) b58 m58) (fns_cons (.mk' rfl F59 sc__law_broken ck__law_broken (PySem.W.mg_of X G a59) b59 m59) (fns_cons (.mk' rfl F60 sc_law ck_law (PySem.W.mg_of X G a60) b60 m60) (fns_nil))))))))))))))))))))))))))))))))))))))))))))))))))))))))))))),
    cst_cons (.mk' (PySem.W.mg_of X G g_MIXED) r_MIXED (KD.tup q_MIXED z_MIXED v_MIXED (KDs.cons (KD.str "plus") (KDs.cons (KD.str "minus") (KDs.cons (KD.str "times") (KDs.cons (KD.str "least") (KDs.cons (KD.str "most") KDs.nil))))))) (cst_cons (.mk' (PySem.W.mg_of X G g_JOINED) r_JOINED (KD.tup q_JOINED z_JOINED v_JOINED (KDs.cons (KD.str "not") (KDs.cons (KD.str "and") (KDs.cons (KD.str "or") KDs.nil))))) (cst_cons (.mk' (PySem.W.mg_of X G g_NOBODY) r_NOBODY (KD.int (-1))) (cst_cons (.mk' (PySem.W.mg_of X G g_MOST_OUTCOME) r_MOST_OUTCOME (KD.int 5)) (cst_nil)))),
    fun x hx => by
      simp only [bltNames, List.mem_cons, List.mem_nil_iff, or_false] at hx
      rcases hx with rfl | rfl | rfl | rfl | rfl | rfl | rfl | rfl | rfl | rfl | rfl | rfl | rfl | rfl | rfl | rfl | rfl
      · exact PySem.W.mg_none_of X G y0
      · exact PySem.W.mg_none_of X G y1
      · exact PySem.W.mg_none_of X G y2
      · exact PySem.W.mg_none_of X G y3
      · exact PySem.W.mg_none_of X G y4
      · exact PySem.W.mg_none_of X G y5
      · exact PySem.W.mg_none_of X G y6
      · exact PySem.W.mg_none_of X G y7
      · exact PySem.W.mg_none_of X G y8
      · exact PySem.W.mg_none_of X G y9
      · exact PySem.W.mg_none_of X G y10
      · exact PySem.W.mg_none_of X G y11
      · exact PySem.W.mg_none_of X G y12
      · exact PySem.W.mg_none_of X G y13
      · exact PySem.W.mg_none_of X G y14
      · exact PySem.W.mg_none_of X G y15
      · exact PySem.W.mg_none_of X G y16
    ⟩
  refine ⟨PySem.W.fnOf "law" "law" (defArgs s_law) (defBody s_law) (defScope s_law) .none kV60 dc60 pm60 an60 cd60 ct60, fun s v => .of_eq rfl, fun base _ _ => ?_⟩
  have Fl := law_fn (P := l.prog) (base := base) (fuel := 700) (k := 25) (n := 63) T (i := 60) (d := d_law) rfl F60 sc_law rfl rfl ck_law fun ns hn => law_true 26 700 (by decide) (by decide) ns
  exact Fl
end PyD.K16
open PySem PySem.W PyProof.Rows
set_option maxHeartbeats 0 in
theorem PySem.Challenge.cw_evenifothers_k16_what_is_broken_holds : PySem.Challenge.rw_evenifothers_k16_what_is_broken.Holds := by
  w_on; o_law; k_head; (case hw => w_witness2)
  k_fill
  refine L2.walk_of (l := PySem.Challenge.rw_evenifothers_k16_what_is_broken) (n := 63) (k := 26) (x := "script") (CX := fun _ => L2.CX0) (sp := fun w => PyD.spLaw 63 _) rfl (by decide) rfl ⟨rfl, by decide, by decide⟩ (fun w h Y => PySem.W.kIn_of Y) ?F (fun _ _ a ns hl _ hS => ⟨a, ns, rfl, hS, hl, fun _ _ e => e⟩) (fun _ _ _ _ _ h => h)
  case F =>
    intro w mg fa h KX G hmg
    refine' PyD.K16.all_mk KX G hmg ?a0 ?l0 ?c0 ?k0 ?a1 ?l1 ?t1 ?v1 ?c1 ?k1 ?a2 ?l2 ?t2 ?v2 ?c2 ?k2 ?a3 ?l3 ?c3 ?k3 ?a4 ?l4 ?c4 ?k4 ?a5 ?l5 ?c5 ?k5 ?a6 ?l6 ?c6 ?k6 ?a7 ?l7 ?c7 ?k7 ?a8 ?l8 ?c8 ?k8 ?a9 ?l9 ?c9 ?k9 ?a10 ?l10 ?c10 ?k10 ?a11 ?l11 ?c11 ?k11 ?a12 ?l12 ?c12 ?k12 ?a13 ?l13 ?c13 ?k13 ?a14 ?l14 ?c14 ?k14 ?a15 ?l15 ?c15 ?k15 ?a16 ?l16 ?c16 ?k16 ?a17 ?l17 ?c17 ?k17 ?a18 ?l18 ?c18 ?k18 ?a19 ?l19 ?c19 ?k19 ?a20 ?l20 ?c20 ?k20 ?a21 ?l21 ?c21 ?k21 ?a22 ?l22 ?c22 ?k22 ?a23 ?l23 ?c23 ?k23 ?a24 ?l24 ?c24 ?k24 ?a25 ?l25 ?c25 ?k25 ?a26 ?l26 ?c26 ?k26 ?a27 ?l27 ?c27 ?k27 ?a28 ?l28 ?c28 ?k28 ?a29 ?l29 ?c29 ?k29 ?a30 ?l30 ?c30 ?k30 ?a31 ?l31 ?c31 ?k31 ?a32 ?l32 ?c32 ?k32 ?a33 ?l33 ?c33 ?k33 ?a34 ?l34 ?c34 ?k34 ?a35 ?l35 ?c35 ?k35 ?a36 ?l36 ?c36 ?k36 ?a37 ?l37 ?c37 ?k37 ?a38 ?l38 ?c38 ?k38 ?a39 ?l39 ?c39 ?k39 ?a40 ?l40 ?c40 ?k40 ?a41 ?l41 ?c41 ?k41 ?a42 ?l42 ?c42 ?k42 ?a43 ?l43 ?c43 ?k43 ?a44 ?l44 ?c44 ?k44 ?a45 ?l45 ?c45 ?k45 ?a46 ?l46 ?c46 ?k46 ?a47 ?l47 ?c47 ?k47 ?a48 ?l48 ?c48 ?k48 ?a49 ?l49 ?c49 ?k49 ?a50 ?l50 ?c50 ?k50 ?a51 ?l51 ?c51 ?k51 ?a52 ?l52 ?c52 ?k52 ?a53 ?l53 ?c53 ?k53 ?a54 ?l54 ?c54 ?k54 ?a55 ?l55 ?c55 ?k55 ?a56 ?l56 ?c56 ?k56 ?a57 ?l57 ?c57 ?k57 ?a58 ?l58 ?c58 ?k58 ?a59 ?l59 ?c59 ?k59 ?a60 ?l60 ?c60 ?k60 ?y0 ?y1 ?y2 ?y3 ?y4 ?y5 ?y6 ?y7 ?y8 ?y9 ?y10 ?y11 ?y12 ?y13 ?y14 ?y15 ?y16 ?g_MIXED ?g_JOINED ?g_NOBODY ?g_MOST_OUTCOME ?r_MIXED ?r_JOINED ?r_NOBODY ?r_MOST_OUTCOME ?q_JOINED ?v_JOINED ?z_JOINED ?q_MIXED ?v_MIXED ?z_MIXED
    (case a0 => k_is)
    (case l0 => k_is)
    (case c0 => k_is)
    (case k0 => k_is)
    (case a1 => k_is)
    (case l1 => k_is)
    (case t1 => k_is)
    (case v1 => exact (Paired.cons ⟨_, rfl⟩ (Paired.cons rfl Paired.nil)))
    (case c1 => k_is)
    (case k1 => k_is)
    (case a2 => k_is)
    (case l2 => k_is)
    (case t2 => k_is)
    (case v2 => exact (Paired.cons rfl Paired.nil))
    (case c2 => k_is)
    (case k2 => k_is)
    (case a3 => k_is)
    (case l3 => k_is)
    (case c3 => k_is)
    (case k3 => k_is)
    (case a4 => k_is)
    (case l4 => k_is)
    (case c4 => k_is)
    (case k4 => k_is)
    (case a5 => k_is)
    (case l5 => k_is)
    (case c5 => k_is)
    (case k5 => k_is)
    (case a6 => k_is)
    (case l6 => k_is)
    (case c6 => k_is)
    (case k6 => k_is)
    (case a7 => k_is)
    (case l7 => k_is)
    (case c7 => k_is)
    (case k7 => k_is)
    (case a8 => k_is)
    (case l8 => k_is)
    (case c8 => k_is)
    (case k8 => k_is)
    (case a9 => k_is)
    (case l9 => k_is)
    (case c9 => k_is)
    (case k9 => k_is)
    (case a10 => k_is)
    (case l10 => k_is)
    (case c10 => k_is)
    (case k10 => k_is)
    (case a11 => k_is)
    (case l11 => k_is)
    (case c11 => k_is)
    (case k11 => k_is)
    (case a12 => k_is)
    (case l12 => k_is)
    (case c12 => k_is)
    (case k12 => k_is)
    (case a13 => k_is)
    (case l13 => k_is)
    (case c13 => k_is)
    (case k13 => k_is)
    (case a14 => k_is)
    (case l14 => k_is)
    (case c14 => k_is)
    (case k14 => k_is)
    (case a15 => k_is)
    (case l15 => k_is)
    (case c15 => k_is)
    (case k15 => k_is)
    (case a16 => k_is)
    (case l16 => k_is)
    (case c16 => k_is)
    (case k16 => k_is)
    (case a17 => k_is)
    (case l17 => k_is)
    (case c17 => k_is)
    (case k17 => k_is)
    (case a18 => k_is)
    (case l18 => k_is)
    (case c18 => k_is)
    (case k18 => k_is)
    (case a19 => k_is)
    (case l19 => k_is)
    (case c19 => k_is)
    (case k19 => k_is)
    (case a20 => k_is)
    (case l20 => k_is)
    (case c20 => k_is)
    (case k20 => k_is)
    (case a21 => k_is)
    (case l21 => k_is)
    (case c21 => k_is)
    (case k21 => k_is)
    (case a22 => k_is)
    (case l22 => k_is)
    (case c22 => k_is)
    (case k22 => k_is)
    (case a23 => k_is)
    (case l23 => k_is)
    (case c23 => k_is)
    (case k23 => k_is)
    (case a24 => k_is)
    (case l24 => k_is)
    (case c24 => k_is)
    (case k24 => k_is)
    (case a25 => k_is)
    (case l25 => k_is)
    (case c25 => k_is)
    (case k25 => k_is)
    (case a26 => k_is)
    (case l26 => k_is)
    (case c26 => k_is)
    (case k26 => k_is)
    (case a27 => k_is)
    (case l27 => k_is)
    (case c27 => k_is)
    (case k27 => k_is)
    (case a28 => k_is)
    (case l28 => k_is)
    (case c28 => k_is)
    (case k28 => k_is)
    (case a29 => k_is)
    (case l29 => k_is)
    (case c29 => k_is)
    (case k29 => k_is)
    (case a30 => k_is)
    (case l30 => k_is)
    (case c30 => k_is)
    (case k30 => k_is)
    (case a31 => k_is)
    (case l31 => k_is)
    (case c31 => k_is)
    (case k31 => k_is)
    (case a32 => k_is)
    (case l32 => k_is)
    (case c32 => k_is)
    (case k32 => k_is)
    (case a33 => k_is)
    (case l33 => k_is)
    (case c33 => k_is)
    (case k33 => k_is)
    (case a34 => k_is)
    (case l34 => k_is)
    (case c34 => k_is)
    (case k34 => k_is)
    (case a35 => k_is)
    (case l35 => k_is)
    (case c35 => k_is)
    (case k35 => k_is)
    (case a36 => k_is)
    (case l36 => k_is)
    (case c36 => k_is)
    (case k36 => k_is)
    (case a37 => k_is)
    (case l37 => k_is)
    (case c37 => k_is)
    (case k37 => k_is)
    (case a38 => k_is)
    (case l38 => k_is)
    (case c38 => k_is)
    (case k38 => k_is)
    (case a39 => k_is)
    (case l39 => k_is)
    (case c39 => k_is)
    (case k39 => k_is)
    (case a40 => k_is)
    (case l40 => k_is)
    (case c40 => k_is)
    (case k40 => k_is)
    (case a41 => k_is)
    (case l41 => k_is)
    (case c41 => k_is)
    (case k41 => k_is)
    (case a42 => k_is)
    (case l42 => k_is)
    (case c42 => k_is)
    (case k42 => k_is)
    (case a43 => k_is)
    (case l43 => k_is)
    (case c43 => k_is)
    (case k43 => k_is)
    (case a44 => k_is)
    (case l44 => k_is)
    (case c44 => k_is)
    (case k44 => k_is)
    (case a45 => k_is)
    (case l45 => k_is)
    (case c45 => k_is)
    (case k45 => k_is)
    (case a46 => k_is)
    (case l46 => k_is)
    (case c46 => k_is)
    (case k46 => k_is)
    (case a47 => k_is)
    (case l47 => k_is)
    (case c47 => k_is)
    (case k47 => k_is)
    (case a48 => k_is)
    (case l48 => k_is)
    (case c48 => k_is)
    (case k48 => k_is)
    (case a49 => k_is)
    (case l49 => k_is)
    (case c49 => k_is)
    (case k49 => k_is)
    (case a50 => k_is)
    (case l50 => k_is)
    (case c50 => k_is)
    (case k50 => k_is)
    (case a51 => k_is)
    (case l51 => k_is)
    (case c51 => k_is)
    (case k51 => k_is)
    (case a52 => k_is)
    (case l52 => k_is)
    (case c52 => k_is)
    (case k52 => k_is)
    (case a53 => k_is)
    (case l53 => k_is)
    (case c53 => k_is)
    (case k53 => k_is)
    (case a54 => k_is)
    (case l54 => k_is)
    (case c54 => k_is)
    (case k54 => k_is)
    (case a55 => k_is)
    (case l55 => k_is)
    (case c55 => k_is)
    (case k55 => k_is)
    (case a56 => k_is)
    (case l56 => k_is)
    (case c56 => k_is)
    (case k56 => k_is)
    (case a57 => k_is)
    (case l57 => k_is)
    (case c57 => k_is)
    (case k57 => k_is)
    (case a58 => k_is)
    (case l58 => k_is)
    (case c58 => k_is)
    (case k58 => k_is)
    (case a59 => k_is)
    (case l59 => k_is)
    (case c59 => k_is)
    (case k59 => k_is)
    (case a60 => k_is)
    (case l60 => k_is)
    (case c60 => k_is)
    (case k60 => k_is)
    (case y0 => k_is)
    (case y1 => k_is)
    (case y2 => k_is)
    (case y3 => k_is)
    (case y4 => k_is)
    (case y5 => k_is)
    (case y6 => k_is)
    (case y7 => k_is)
    (case y8 => k_is)
    (case y9 => k_is)
    (case y10 => k_is)
    (case y11 => k_is)
    (case y12 => k_is)
    (case y13 => k_is)
    (case y14 => k_is)
    (case y15 => k_is)
    (case y16 => k_is)
    (case g_MIXED => k_is)
    (case g_JOINED => k_is)
    (case g_NOBODY => k_is)
    (case g_MOST_OUTCOME => k_is)
    (case r_MIXED => exact rfl)
    (case r_JOINED => exact rfl)
    (case r_NOBODY => exact ⟨_, rfl⟩)
    (case r_MOST_OUTCOME => exact ⟨_, rfl⟩)
    (case q_JOINED => k_is)
    (case v_JOINED => exact (Paired.cons ⟨_, rfl⟩ (Paired.cons ⟨_, rfl⟩ (Paired.cons ⟨_, rfl⟩ Paired.nil))))
    (case z_JOINED => decide)
    (case q_MIXED => k_is)
    (case v_MIXED => exact (Paired.cons ⟨_, rfl⟩ (Paired.cons ⟨_, rfl⟩ (Paired.cons ⟨_, rfl⟩ (Paired.cons ⟨_, rfl⟩ (Paired.cons ⟨_, rfl⟩ Paired.nil))))))
    (case z_MIXED => decide)
