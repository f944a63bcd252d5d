import PyProof.Rows.All
import KE.KeyNested
import PyProof.DictRoadsH
import HandS.Base
import HandS.Call
import HandS.List
import HandS.Comp
import HandS.Ends
import HandS.Dict
import HandS.Iter
import HandS.Text
import HandS.Words
import HandS.WordsList
import HandS.Style
import HandS.Zip
import HandS.Conv
import HandS.Flow
import HandS.IsInst
import HandS.TupMul
import HandS.Rev
import KE.GoesEnum
import HandS.More
import HandS.SortInts
import PyProof.P3In
import HandS.TupSets
import HandS.CallLocal
import HandS.Replace
import KE.KExcSuper
import HandS.ExcIs
import HandS.ExcField
import HandS.WordsExc
import KE.KExcIs
import HandS.ForMost
import HandS.Defaults
import PySem.Challenge.RW_evenifothers_k55_letters_and_sums
set_option Elab.async false
set_option linter.all false
set_option maxRecDepth 100000
set_option maxHeartbeats 8000000
/-! PyDA: pure data, the small language, what it computes (core Lean alone). -/
namespace PyD
/-- data: tuples are values; lst: a list that nobody changes any more; rol: a list of the outside, read only; ref n: the n-th mutable object -/
inductive D where
  | non | bl (b : Bool) | int (i : Int) | str (s : String) | tup (xs : List D) | lst (xs : List D) | rol (xs : List D) | ref (n : Nat) | fn (x : String)
  deriving Inhabited
/-- mutable objects: lists, dicts -/
inductive AO where
  | lst (xs : List D) | dct (kvs : List (D × D)) | ids (ks : List Int)
  deriving Inhabited
abbrev AH := List AO
abbrev Sl := List (Option D)
abbrev lim : Nat := 16777216
/-- what a def computes -/
abbrev Fun := List D → AH → Option (D × AH)

inductive Bop where
  | add | sub | mul | fdiv | mod | pow
  deriving DecidableEq
inductive Cop where
  | lt | le | gt | ge | eq | ne | is | isnot | isin | notin
  deriving DecidableEq
inductive Blt where
  | len | abs | int | min | max | str | tuple | all | any | bool | sum
  deriving DecidableEq
inductive Ty where
  | int | str | tuple | bool | list
  deriving DecidableEq
mutual
inductive Tg where
  | v (i : Nat) | t (ts : Tgs)
inductive Tgs where
  | nil | cons (t : Tg) (ts : Tgs)
end
mutual
inductive Ex where
  | var (i : Nat) | non | bl (b : Bool) | int (i : Int) | str (s : String) | glob (x : String) (d : D)
  | tup (es : Exs) | fv (f : Fx) | fm (f : Fx)
  | bin (op : Bop) (a b : Ex) | neg (a : Ex)
  | cmp (op : Cop) (a b : Ex) | chain (op op' : Cop) (a b c : Ex)
  | bop (isAnd : Bool) (es : Exs) | not (a : Ex) | ite (c a b : Ex)
  | idx (a b : Ex) | slc (a : Ex) (lo hi : Ox)
  | call (f : Nat) (args : Exs) | callK (f : Nat) (args kws : Exs) | callD (f : Nat) (args : Exs) (dfl : List D) | blt (b : Blt) (args : Exs) | isi (a : Ex) (t : Ty)
  | comp (elt : Ex) (tg : Tg) (it : It) (cond : Ox) (own : List Nat)
  | app (l e : Ex) | ext (l e : Ex)
  | dct0 | dct1 (k v : Ex) | inD (ng : Bool) (a b : Ex) | idxD (a b : Ex) | inT (ng : Bool) (a b : Ex) | dctT | pop0 (l : Ex)
  | callL (i : Nat) (x : String) (g : Nat) (args : Exs) | popE (l : Ex) | sidx (x : String) (s : String) (e : Ex)
inductive Exs where
  | nil | cons (e : Ex) (es : Exs)
inductive Ox where
  | no | so (e : Ex)
/-- makes a new list -/
inductive Fx where
  | disp (es : Exs) | rep (a n : Ex) | ofSeq (e : Ex) | rng1 (b : Ex) | rng2 (a b : Ex) | cat (a b : Ex) | cut (a : Ex) (lo hi : Ox) | rev (a : Ex) | srt (a : Ex) | srtT (a : Ex) | srtS (a : Ex)
/-- what a loop walks -/
inductive It where
  | seq (e : Ex) | rng1 (b : Ex) | rng2 (a b : Ex) | enum (e : Ex) | zip (a b : Ex) | chars (e : Ex)
end
mutual
inductive S where
  | set (i : Nat) (e : Ex) | par2 (i j : Nat) (a b : Ex) | par3 (i j k : Nat) (a b c : Ex)
  | asg (t : Tg) (e : Ex) | aug (i : Nat) (op : Bop) (e : Ex) | setIx (o i e : Ex) | setD (o i e : Ex) | setI (o i e : Ex)
  | expr (e : Ex) | ret (e : Ex) | retN
  | ite (c : Ex) (t e : Ss) | whl (c : Ex) (b : Ss) | for_ (t : Tg) (it : It) (b : Ss)
  | brk | cnt | pass
  | raise (e : Ex) | retV (e : Ex) | tryC (t1 : String) (f : Nat) (as ks : Exs) (t2 : String)
inductive Ss where
  | nil | cons (s : S) (ss : Ss)
end

/-! ### operations -/
def beqD : D → D → Bool
  | .non, .non => true
  | .bl a, .bl b => a == b
  | .bl a, .int b => (if a then 1 else 0) == b
  | .int a, .bl b => a == (if b then 1 else 0)
  | .int a, .int b => a == b
  | .str a, .str b => a == b
  | _, _ => false
def flat : D → Bool
  | .non => true | .bl _ => true | .int _ => true | .str _ => true | _ => false
/-- ==: of scalars -/
def deq : D → D → Option Bool
  | .bl _, .int _ => none
  | .int _, .bl _ => none
  | a, b => if flat a && flat b then some (beqD a b) else none

/-- the items of a sequence -/
def items : D → AH → Option (List D)
  | .tup ds, _ => some ds
  | .lst ds, _ => some ds
  | .rol ds, _ => some ds
  | .ref n, h => match h[n]? with
    | some (.lst ds) => some ds
    | _ => none
  | _, _ => none
/-- the items of a list that is no tuple -/
def litems : D → AH → Option (List D)
  | .lst ds, _ => some ds
  | .rol ds, _ => some ds
  | .ref n, h => match h[n]? with
    | some (.lst ds) => some ds
    | _ => none
  | _, _ => none
/-- .. of one that may be copied by the operators: not the outside's -/
def mitems : D → AH → Option (List D)
  | .lst ds, _ => some ds
  | .ref n, h => match h[n]? with
    | some (.lst ds) => some ds
    | _ => none
  | _, _ => none
def tupOf : D → Option (List D)
  | .tup xs => some xs
  | _ => none
def eqs (f : D → D → Option Bool) : List D → List D → Option Bool
  | x :: xs, y :: ys => (f x y).bind fun b => (eqs f xs ys).map fun c => b && c
  | [], [] => some true
  | _, _ => some false
/-- ==: of values of a depth -/
def eqN (h : AH) : Nat → D → D → Option Bool
  | 0, a, b => if flat a && flat b then some (beqD a b) else none
  | n + 1, a, b => match tupOf a, tupOf b with
    | some xs, some ys => eqs (eqN h n) xs ys
    | some _, none => if flat b then some false else (litems b h).map fun _ => false
    | none, some _ => if flat a then some false else (litems a h).map fun _ => false
    | none, none => if flat a then (if flat b then some (beqD a b) else (litems b h).map fun _ => false)
      else if flat b then (litems a h).map fun _ => false
      else (litems a h).bind fun xs => (litems b h).bind fun ys => if xs.length = ys.length then eqs (eqN h n) xs ys else some false
mutual
/-- ==: all kinds -/
def eqD : D → D → Bool
  | .tup xs, .tup ys => eqDs xs ys
  | .lst xs, .lst ys => eqDs xs ys
  | .lst xs, .rol ys => eqDs xs ys
  | .rol xs, .lst ys => eqDs xs ys
  | .rol xs, .rol ys => eqDs xs ys
  | a, b => beqD a b
def eqDs : List D → List D → Bool
  | x :: xs, y :: ys => eqD x y && eqDs xs ys
  | [], [] => true
  | _, _ => false
end
mutual
def closed : D → Bool
  | .ref _ => false
  | .fn _ => false
  | .tup ds => closeds ds
  | .lst ds => closeds ds
  | .rol ds => closeds ds
  | .non => true | .bl _ => true | .int _ => true | .str _ => true
def closeds : List D → Bool
  | [] => true
  | d :: ds => closed d && closeds ds
end
mutual
def depD : D → Nat
  | .tup ds => depDs ds + 1
  | .lst ds => depDs ds + 1
  | .rol ds => depDs ds + 1
  | .non => 0 | .bl _ => 0 | .int _ => 0 | .str _ => 0 | .ref _ => 0 | .fn _ => 0
def depDs : List D → Nat
  | [] => 0
  | d :: ds => max (depD d) (depDs ds)
end
mutual
/-- may be a key's part -/
def keyOk : D → Bool
  | .non => true | .bl _ => true | .int _ => true | .str _ => true
  | .tup ds => keyOks ds
  | .lst _ => false | .rol _ => false | .ref _ => false | .fn _ => false
def keyOks : List D → Bool
  | [] => true
  | d :: ds => keyOk d && keyOks ds
end
/-- may be a key: tuples -/
def kyD (d : D) : Bool := keyOk d && decide (depD d ≤ 8) && (tupOf d).isSome
def dget (kvs : List (D × D)) (k : D) : Option D := (kvs.find? fun p => eqD p.1 k).map (·.2)
def dput (kvs : List (D × D)) (k v : D) : List (D × D) :=
  if (dget kvs k).isSome then kvs.map (fun p => if eqD p.1 k then (p.1, v) else p) else kvs ++ [(k, v)]
def dctOf : D → AH → Option (List (D × D))
  | .ref n, h => match h[n]? with
    | some (.dct kvs) => some kvs
    | _ => none
  | _, _ => none
/-! dicts of ints, each worth True; sorting -/
def insI (x : Int) : List Int → List Int
  | [] => [x]
  | y :: ys => if x ≤ y then x :: y :: ys else y :: insI x ys
def isort : List Int → List Int
  | [] => []
  | x :: xs => insI x (isort xs)
def intsOf : List D → Option (List Int)
  | [] => some []
  | .int i :: ds => (intsOf ds).map fun is => i :: is
  | _ :: _ => none
def sortOf : D → AH → Option (List Int)
  | .lst ds, _ => intsOf ds
  | .ref n, h => match h[n]? with
    | some (.lst ds) => intsOf ds
    | some (.ids ks) => if ks.length < 64 then some ks else none
    | _ => none
  | _, _ => none
def putI (ks : List Int) (k : Int) : List Int := if k ∈ ks then ks else ks ++ [k]
def putID : D → D → D → AH → Option AH
  | .ref n, .int k, .bl true, h => match h[n]? with
    | some (.ids ks) => if ks.length < lim then some (h.set n (.ids (putI ks k))) else none
    | _ => none
  | _, _, _, _ => none
/-- in a tuple, of values of any depth -/
def inTD (ng : Bool) (x y : D) : Option D := match y with
  | .tup ds => if closed x && closeds ds && decide (depD x ≤ 60) && decide (depDs ds ≤ 59) then some (.bl ((ds.any fun z => eqD z x) != ng)) else none
  | .lst ds => if closed x && closeds ds && decide (depD x ≤ 60) && decide (depDs ds ≤ 59) then some (.bl ((ds.any fun z => eqD z x) != ng)) else none
  | _ => none
/-! tuples of ints -/
def tupI (ns : List Int) : D := .tup (ns.map .int)
def lim6 : Int := 1000000
def codeI (B : Int) : List Int → Int
  | [] => 0
  | d :: r => d * B ^ r.length + codeI B r
def insT (x : List Int) : List (List Int) → List (List Int)
  | [] => [x]
  | y :: ys => if codeI lim6 x ≤ codeI lim6 y then x :: y :: ys else y :: insT x ys
def tsort : List (List Int) → List (List Int)
  | [] => []
  | x :: xs => insT x (tsort xs)
def tkey : D → Option (List Int)
  | .tup ds => intsOf ds
  | _ => none
def tkeysL : List D → Option (List (List Int))
  | [] => some []
  | d :: ds => (tkey d).bind fun k => (tkeysL ds).map fun ks => k :: ks
def tkeys (kvs : List (D × D)) : Option (List (List Int)) := tkeysL (kvs.map (·.1))
def titems : D → Option (List (List Int))
  | .lst ds => tkeysL ds
  | _ => none
def tuniq : List (List Int) → List (List Int)
  | [] => []
  | x :: xs => if x ∈ xs then tuniq xs else x :: tuniq xs
/-- fewer than 64 tuples of one length, of ints that are small -/
def okT (L : List (List Int)) : Bool := decide (L.length < 64) && L.all (fun ns => ns.all fun m => decide (0 ≤ m) && decide (m < lim6)) && (decide (L.length ≤ 1) || (match L with
  | [] => true
  | x :: _ => decide (1 ≤ x.length) && L.all fun y => decide (y.length = x.length)))
def popD : D → AH → Option (D × AH)
  | .ref n, h => match h[n]? with
    | some (.lst (d :: ds)) => some (d, h.set n (.lst ds))
    | _ => none
  | _, _ => none
def popED : D → AH → Option (D × AH)
  | .ref n, h => match h[n]? with
    | some (.lst ds) => (ds[ds.length - 1]?).bind fun d => some (d, h.set n (.lst ds.dropLast))
    | _ => none
  | _, _ => none
/-- the signs of a text -/
def signs (s : String) : List String := s.toList.map String.singleton
def sIdx (s b : String) : Option Nat := (signs s).findIdx? (fun x => x == b)
/-- a list by its number, as it stands -/
def rsv (d : D) (h : AH) : D := match d with
  | .ref n => (match h[n]? with
    | some (.lst ds) => .lst ds
    | _ => .ref n)
  | d => d
def eqO (a b : D) (h : AH) : Option Bool := if closed (rsv a h) && closed (rsv b h) && decide (depD (rsv a h) ≤ 60) && decide (depD (rsv b h) ≤ 60) then some (eqD (rsv a h) (rsv b h)) else none
def truth : D → AH → Option Bool
  | .non, _ => some false
  | .bl b, _ => some b
  | .int i, _ => some (i != 0)
  | .tup ds, _ => some (!ds.isEmpty)
  | .lst ds, _ => some (!ds.isEmpty)
  | .rol ds, _ => some (!ds.isEmpty)
  | .ref n, h => match h[n]? with
    | some (.lst ds) => some (!ds.isEmpty)
    | _ => none
  | .str _, _ => none
  | .fn _, _ => none
def binop : Bop → D → D → Option D
  | .add, .int i, .int j => some (.int (i + j))
  | .add, .str a, .str b => if a.length + b.length ≤ lim then some (.str (a ++ b)) else none
  | .add, .tup xs, .tup ys => if xs.length + ys.length ≤ lim then some (.tup (xs ++ ys)) else none
  | .sub, .int i, .int j => some (.int (i - j))
  | .mul, .int i, .int j => if (-(2 ^ 64) < i ∧ i < 2 ^ 64) ∨ (-(2 ^ 64) < j ∧ j < 2 ^ 64) then some (.int (i * j)) else none
  | .mul, .tup xs, .int k => if -1000 ≤ k ∧ k ≤ 1000 ∧ xs.length ≤ 1000 then some (.tup (List.replicate k.toNat xs).flatten) else none
  | .fdiv, .int i, .int j => if 0 < j ∧ j < 1073741824 then some (.int (i / j)) else none
  | .mod, .int i, .int j => if 0 < j then some (.int (i % j)) else none
  | .pow, .int i, .int j => if 0 ≤ j ∧ j ≤ 1000000 ∧ i.natAbs < 2 ^ 64 then some (.int (i ^ j.toNat)) else none
  | _, _, _ => none
def cmpop : Cop → D → D → AH → Option Bool
  | .lt, .int i, .int j, _ => some (decide (i < j))
  | .le, .int i, .int j, _ => some (decide (i ≤ j))
  | .gt, .int i, .int j, _ => some (decide (j < i))
  | .ge, .int i, .int j, _ => some (decide (j ≤ i))
  | .eq, a, b, h => eqO a b h
  | .ne, a, b, h => (eqO a b h).map not
  | .is, a, .non, _ => some (match a with | .non => true | _ => false)
  | .is, a, .bl b, _ => some (match a with | .bl c => c == b | _ => false)
  | .isnot, a, .non, _ => some (match a with | .non => false | _ => true)
  | .isin, a, b, h => (items b h).bind fun xs => if flat a && xs.all flat then some (xs.any fun y => beqD y a) else none
  | .notin, a, b, h => (items b h).bind fun xs => if flat a && xs.all flat then some (!xs.any fun y => beqD y a) else none
  | _, _, _, _ => none
/-- a is T, is F, of any value -/
def isTy : D → Ty → Bool
  | .int _, .int => true
  | .bl _, .int => true
  | .bl _, .bool => true
  | .str _, .str => true
  | .tup _, .tuple => true
  | .lst _, .list => true
  | .rol _, .list => true
  | .ref _, .list => true
  | _, _ => false
/-- .. in a heap -/
def isTyH (d : D) (t : Ty) (h : AH) : Option Bool := match d with
  | .fn _ => none
  | .ref n => (match h[n]? with
    | some (.lst _) => some (isTy (.ref n) t)
    | _ => none)
  | d => some (isTy d t)
/-- the place that an index means -/
def place (n : Nat) (i : Int) : Option Nat := if 0 ≤ i then (if i < n then some i.toNat else none) else if -(n : Int) ≤ i then some (i + n).toNat else none
def index (d : D) (i : D) (h : AH) : Option D :=
  match i with
  | .int k => (items d h).bind fun xs => (place xs.length k).bind fun j => xs[j]?
  | _ => none
def bnd (n d : Nat) : Option Int → Nat
  | none => d
  | some i => if i < 0 then (i + n).toNat else min i.toNat n
def cut (xs : List D) (lo hi : Option Int) : List D := (xs.drop (bnd xs.length 0 lo)).take (bnd xs.length xs.length hi - bnd xs.length 0 lo)
def allBool : List D → Option (List Bool)
  | [] => some []
  | .bl b :: r => (allBool r).map (b :: ·)
  | _ => none
def allInt : List D → Option (List Int)
  | [] => some []
  | .int i :: r => (allInt r).map (i :: ·)
  | _ => none
def ofStr (i : Int) : String := toString i
def bltf : Blt → List D → AH → Option D
  | .len, [.str s], _ => if s.length ≤ lim then some (.int s.length) else none
  | .len, [d], h => (items d h).map fun xs => .int xs.length
  | .abs, [.int i], _ => some (.int (if i < 0 then -i else i))
  | .int, [.int i], _ => some (.int i)
  | .int, [.bl b], _ => some (.int (if b then 1 else 0))
  | .min, [.int i, .int j], _ => some (.int (if j < i then j else i))
  | .max, [.int i, .int j], _ => some (.int (if j > i then j else i))
  | .str, [.int i], _ => if i.natAbs.log2 < 1920 then some (.str (ofStr i)) else none
  | .tuple, [d], h => (items d h).map .tup
  | .all, [d], h => (items d h).bind fun xs => (allBool xs).map fun bs => .bl (bs.all id)
  | .any, [d], h => (items d h).bind fun xs => (allBool xs).map fun bs => .bl (bs.any id)
  | .bool, [.bl b], _ => some (.bl b)
  | .sum, [d], h => (litems d h).bind fun xs => (allInt xs).map fun ns => .int ns.sum
  | _, _, _ => none
def rng (a b : Int) : Option (List D) := if -1000000 ≤ a ∧ b ≤ 1000000 ∧ a ≤ 1000000 ∧ -1000000 ≤ b then some ((List.range (b - a).toNat).map fun i => .int (a + (i : Nat))) else none

/-- x op= y -/
def augF : Bop → Int → D → Option D
  | .add, x, .int y => some (.int (x + y))
  | .sub, x, .int y => some (.int (x - y))
  | _, _, _ => none
/-! ### targets -/
mutual
def put : Tg → D → Sl → Option Sl
  | .v i, d, σ => some (σ.set i (some d))
  | .t ts, d, σ => match d with
    | .tup ds => puts ts ds σ
    | _ => none
def puts : Tgs → List D → Sl → Option Sl
  | .nil, [], σ => some σ
  | .cons t ts, d :: ds, σ => (put t d σ).bind fun σ' => puts ts ds σ'
  | _, _, _ => none
end
def wipe (σ : Sl) : List Nat → Sl
  | [] => σ
  | v :: vs => (wipe σ vs).set v none

/-- a list that is walked must keep its length -/
def okL (n : Option Nat) (len : Nat) (h : AH) : Bool := match n with
  | none => true
  | some k => match h[k]? with
    | some (.lst a) => a.length == len
    | _ => false
/-- the item of a turn: the list's as it stands -/
def cur (n : Option Nat) (i : Nat) (x : D) (h : AH) : Option D := match n with
  | none => some x
  | some k => match h[k]? with
    | some (.lst a) => a[i]?
    | _ => none
/-- a comprehension's turns -/
def compL (σ : Sl) (tg : Tg) (n : Option Nat) (len : Nat) (cond : Sl → AH → Option (Bool × AH)) (elt : Sl → AH → Option (D × AH)) : List D → Nat → AH → Option (List D × AH)
  | [], _, h => if okL n len h then some ([], h) else none
  | x :: xs, i, h => if okL n len h then (cur n i x h).bind fun y => (put tg y σ).bind fun σ1 => (cond σ1 h).bind fun (b, h1) =>
      if b then (elt σ1 h1).bind fun (d, h2) => (compL σ tg n len cond elt xs (i + 1) h2).bind fun (ds, h3) => some (d :: ds, h3)
      else compL σ tg n len cond elt xs (i + 1) h1
    else none

/-! ### refs: what is closed, what is frozen -/
mutual
def mapR (g : Nat → Option D) : D → Option D
  | .ref k => g k
  | .tup ds => (mapRs g ds).map .tup
  | .lst ds => (mapRs g ds).map .lst
  | .rol ds => (mapRs g ds).map .rol
  | .fn _ => none
  | .non => some .non | .bl b => some (.bl b) | .int i => some (.int i) | .str s => some (.str s)
def mapRs (g : Nat → Option D) : List D → Option (List D)
  | [] => some []
  | d :: ds => (mapR g d).bind fun x => (mapRs g ds).map fun xs => x :: xs
end
/-- the list behind a number, as a value; ok: which may be frozen -/
def fzR (h : AH) (ok : Nat → Bool) : Nat → Nat → Option D
  | 0, _ => none
  | n + 1, k => if ok k then (match h[k]? with
    | some (.lst ds) => (mapRs (fzR h ok n) ds).map .lst
    | _ => none) else none
def closedO : AO → Bool
  | .lst ds => closeds ds
  | .dct _ => false
  | .ids _ => false
/-- what a def gives back: its new lists frozen (m: but the one that it answers with), its n old ones as they are -/
def fin (m : Bool) (n : Nat) (d : D) (h : AH) : Option (D × AH) :=
  if (h.take n).all closedO then
    if m then (match d with
      | .ref k => if n ≤ k then (match h[k]? with
          | some (.lst ds) => (mapRs (fzR h (fun j => decide (n ≤ j) && decide (j ≠ k)) 6) ds).map fun es => (.ref n, h.take n ++ [.lst es])
          | _ => none) else none
      | _ => none)
    else (mapR (fzR h (fun j => decide (n ≤ j)) 6) d).map fun e => (e, h.take n)
  else none
/-- what may be handed to a def: values, defs -/
def argOk : D → Bool
  | .fn _ => true
  | d => closed d
def argsOk (ds : List D) : Bool := ds.all argOk
/-- a call: on no mutable object, or on one that stands first -/
def callC (φ : Fun) (ds : List D) (h : AH) : Option (D × AH) := match ds with
  | .ref r :: rest => if closeds rest then (match h[r]? with
      | some (.lst es) => if closeds es then (φ (.ref 0 :: rest) [.lst es]).bind fun (d, h') => (match h' with
          | [.lst es'] => if closed d && closeds es' then some (d, h.set r (.lst es')) else none
          | _ => none)
        else none
      | _ => none)
    else none
  | ds => if argsOk ds then (φ ds []).bind fun (d, h') => (match h' with
      | [] => if closed d then some (d, h) else none
      | [.lst es] => (match d with
          | .ref 0 => if closeds es then some (.ref h.length, h ++ [.lst es]) else none
          | _ => none)
      | _ => none)
    else none

section
variable (C : Nat → Fun)
mutual
def ev : Ex → Sl → AH → Option (D × AH)
  | .var i, σ, h => match σ[i]? with
    | some (some d) => some (d, h)
    | _ => none
  | .non, _, h => some (.non, h)
  | .bl b, _, h => some (.bl b, h)
  | .int i, _, h => some (.int i, h)
  | .str s, _, h => some (.str s, h)
  | .glob _ d, _, h => some (d, h)
  | .tup es, σ, h => (evs es σ h).bind fun (ds, h1) => some (.tup ds, h1)
  | .fv f, σ, h => (evF f σ h).bind fun (ds, h1) => some (.lst ds, h1)
  | .fm f, σ, h => (evF f σ h).bind fun (ds, h1) => some (.ref h1.length, h1 ++ [.lst ds])
  | .bin op a b, σ, h => (ev a σ h).bind fun (x, h1) => (ev b σ h1).bind fun (y, h2) => (binop op x y).bind fun z => some (z, h2)
  | .neg a, σ, h => (ev a σ h).bind fun (x, h1) => match x with
    | .int i => some (.int (-i), h1)
    | _ => none
  | .cmp op a b, σ, h => (ev a σ h).bind fun (x, h1) => (ev b σ h1).bind fun (y, h2) => (cmpop op x y h2).bind fun z => some (.bl z, h2)
  | .chain op op' a b c, σ, h => (ev a σ h).bind fun (x, h1) => (ev b σ h1).bind fun (y, h2) => (cmpop op x y h2).bind fun k =>
      if k then (ev c σ h2).bind fun (z, h3) => (cmpop op' y z h3).bind fun k' => some (.bl k', h3) else some (.bl false, h2)
  | .bop i es, σ, h => evB i es σ h
  | .not a, σ, h => (ev a σ h).bind fun (d, h1) => (truth d h1).bind fun k => some (.bl (!k), h1)
  | .ite c a b, σ, h => (ev c σ h).bind fun (d, h1) => (truth d h1).bind fun k => if k then ev a σ h1 else ev b σ h1
  | .idx a b, σ, h => (ev a σ h).bind fun (x, h1) => (ev b σ h1).bind fun (y, h2) => (index x y h2).bind fun z => some (z, h2)
  | .slc a lo hi, σ, h => (ev a σ h).bind fun (x, h1) => (evO lo σ h1).bind fun (l, h2) => (evO hi σ h2).bind fun (u, h3) => match x with
    | .tup xs => some (.tup (cut xs l u), h3)
    | _ => none
  | .call f args, σ, h => (evs args σ h).bind fun (ds, h1) => callC (C f) ds h1
  | .callK f args kws, σ, h => (evs args σ h).bind fun (ds, h1) => (evs kws σ h1).bind fun (es, h2) => callC (C f) (ds ++ es) h2
  | .callD f args dfl, σ, h => (evs args σ h).bind fun (ds, h1) => callC (C f) (ds ++ dfl) h1
  | .blt b args, σ, h => (evs args σ h).bind fun (ds, h1) => (bltf b ds h1).bind fun z => some (z, h1)
  | .isi a t, σ, h => (ev a σ h).bind fun (x, h1) => (isTyH x t h1).bind fun k => some (.bl k, h1)
  | .comp elt tg it cond own, σ, h => (evI it σ h).bind fun (xs, n, h1) => if xs.length ≤ lim then (compL (wipe σ own) tg n xs.length (tstO cond) (ev elt) xs 0 h1).bind fun (ds, h2) => some (.lst ds, h2) else none
  | .app l e, σ, h => (ev l σ h).bind fun (x, h1) => (litems x h1).bind fun _ => (ev e σ h1).bind fun (y, h2) => match x with
    | .ref n => (match h2[n]? with
      | some (.lst ds) => if ds.length < lim then some (.non, h2.set n (.lst (ds ++ [y]))) else none
      | _ => none)
    | _ => none
  | .ext l e, σ, h => (ev l σ h).bind fun (x, h1) => (litems x h1).bind fun _ => (ev e σ h1).bind fun (y, h2) => (mitems y h2).bind fun ys => match x with
    | .ref n => (match h2[n]? with
      | some (.lst ds) => if ds.length + ys.length ≤ lim then some (.non, h2.set n (.lst (ds ++ ys))) else none
      | _ => none)
    | _ => none
  | .dct0, _, h => some (.ref h.length, h ++ [.ids []])
  | .dctT, _, h => some (.ref h.length, h ++ [.dct []])
  | .pop0 l, σ, h => (ev l σ h).bind fun (x, h1) => popD x h1
  | .callL i x g args, σ, h => match σ[i]? with
    | some (some (.fn y)) => if y = x then (evs args σ h).bind fun (ds, h1) => callC (C g) ds h1 else none
    | _ => none
  | .popE l, σ, h => (ev l σ h).bind fun (x, h1) => popED x h1
  | .sidx _ s e, σ, h => (ev e σ h).bind fun (x, h1) => match x with
    | .str b => (sIdx s b).bind fun i => some (.int (i : Nat), h1)
    | _ => none
  | .dct1 k v, σ, h => (ev k σ h).bind fun (x, h1) => (ev v σ h1).bind fun (y, h2) => if kyD x then some (.ref h2.length, h2 ++ [.dct [(x, y)]]) else none
  | .inD ng a b, σ, h => (ev a σ h).bind fun (x, h1) => (ev b σ h1).bind fun (y, h2) => (dctOf y h2).bind fun kvs => if kyD x then some (.bl ((dget kvs x).isSome != ng), h2) else none
  | .idxD a b, σ, h => (ev a σ h).bind fun (x, h1) => (ev b σ h1).bind fun (y, h2) => (dctOf x h2).bind fun kvs => if kyD y then (dget kvs y).bind fun z => some (z, h2) else none
  | .inT ng a b, σ, h => (ev a σ h).bind fun (x, h1) => (ev b σ h1).bind fun (y, h2) => (inTD ng x (rsv y h2)).bind fun z => some (z, h2)
def evs : Exs → Sl → AH → Option (List D × AH)
  | .nil, _, h => some ([], h)
  | .cons e es, σ, h => (ev e σ h).bind fun (d, h1) => (evs es σ h1).bind fun (ds, h2) => some (d :: ds, h2)
def evO : Ox → Sl → AH → Option (Option Int × AH)
  | .no, _, h => some (none, h)
  | .so e, σ, h => (ev e σ h).bind fun (d, h1) => match d with
    | .int i => some (some i, h1)
    | _ => none
def evB (isAnd : Bool) : Exs → Sl → AH → Option (D × AH)
  | .nil, _, _ => none
  | .cons e .nil, σ, h => ev e σ h
  | .cons e (.cons e2 es), σ, h => (ev e σ h).bind fun (d, h1) => (truth d h1).bind fun k => if k == isAnd then evB isAnd (.cons e2 es) σ h1 else some (d, h1)
/-- as a comprehension's test -/
def tstO : Ox → Sl → AH → Option (Bool × AH)
  | .no, _, h => some (true, h)
  | .so e, σ, h => (ev e σ h).bind fun (d, h1) => (truth d h1).bind fun k => some (k, h1)
def evF : Fx → Sl → AH → Option (List D × AH)
  | .disp es, σ, h => evs es σ h
  | .rep a n, σ, h => (ev a σ h).bind fun (x, h1) => (ev n σ h1).bind fun (y, h2) => match y with
    | .int k => (mitems x h2).bind fun xs => if 0 ≤ k ∧ k ≤ lim ∧ xs.length * k.toNat ≤ lim then some ((List.replicate k.toNat xs).flatten, h2) else none
    | _ => none
  | .ofSeq e, σ, h => (ev e σ h).bind fun (x, h1) => (items x h1).bind fun xs => some (xs, h1)
  | .rng1 b, σ, h => (ev b σ h).bind fun (x, h1) => match x with
    | .int i => (rng 0 i).bind fun xs => some (xs, h1)
    | _ => none
  | .rng2 a b, σ, h => (ev a σ h).bind fun (x, h1) => (ev b σ h1).bind fun (y, h2) => match x, y with
    | .int i, .int j => (rng i j).bind fun xs => some (xs, h2)
    | _, _ => none
  | .cat a b, σ, h => (ev a σ h).bind fun (x, h1) => (ev b σ h1).bind fun (y, h2) => (mitems x h2).bind fun xs => (mitems y h2).bind fun ys =>
      if xs.length + ys.length ≤ lim then some (xs ++ ys, h2) else none
  | .cut a lo hi, σ, h => (ev a σ h).bind fun (x, h1) => (evO lo σ h1).bind fun (l, h2) => (evO hi σ h2).bind fun (u, h3) => (litems x h3).bind fun xs => some (cut xs l u, h3)
  | .rev a, σ, h => (ev a σ h).bind fun (x, h1) => (litems x h1).bind fun xs => some (xs.reverse, h1)
  | .srtT a, σ, h => (ev a σ h).bind fun (x, h1) => (dctOf x h1).bind fun kvs => (tkeys kvs).bind fun L => if okT L then some ((tsort L).map tupI, h1) else none
  | .srtS a, σ, h => (ev a σ h).bind fun (x, h1) => (titems x).bind fun L => if okT L then some ((tsort (tuniq L)).map tupI, h1) else none
  | .srt a, σ, h => (ev a σ h).bind fun (x, h1) => (sortOf x h1).bind fun ks => some ((isort ks).map .int, h1)
def evI : It → Sl → AH → Option (List D × Option Nat × AH)
  | .seq e, σ, h => (ev e σ h).bind fun (x, h1) => (items x h1).bind fun xs => some (xs, (match x with | .ref n => some n | _ => none), h1)
  | .rng1 b, σ, h => (ev b σ h).bind fun (x, h1) => match x with
    | .int i => (rng 0 i).bind fun xs => some (xs, none, h1)
    | _ => none
  | .rng2 a b, σ, h => (ev a σ h).bind fun (x, h1) => (ev b σ h1).bind fun (y, h2) => match x, y with
    | .int i, .int j => (rng i j).bind fun xs => some (xs, none, h2)
    | _, _ => none
  | .enum e, σ, h => (ev e σ h).bind fun (x, h1) => match x with
    | .tup xs => some (xs.mapIdx (fun i d => .tup [.int i, d]), none, h1)
    | .lst xs => some (xs.mapIdx (fun i d => .tup [.int i, d]), none, h1)
    | .rol xs => some (xs.mapIdx (fun i d => .tup [.int i, d]), none, h1)
    | _ => none
  | .chars e, σ, h => (ev e σ h).bind fun (x, h1) => match x with
    | .str s => some ((signs s).map .str, none, h1)
    | _ => none
  | .zip a b, σ, h => (ev a σ h).bind fun (x, h1) => (ev b σ h1).bind fun (y, h2) => match x, y with
    | .tup xs, .tup ys => some ((xs.zip ys).map (fun p => .tup [p.1, p.2]), none, h2)
    | .lst xs, .tup ys => some ((xs.zip ys).map (fun p => .tup [p.1, p.2]), none, h2)
    | _, _ => none
end

/-- an expression as a test -/
def tst (e : Ex) (σ : Sl) (h : AH) : Option (Bool × AH) := (ev C e σ h).bind fun (d, h1) => (truth d h1).bind fun k => some (k, h1)

/-! ### statements -/
inductive Fl where
  | nx | rt (d : D) | bk | ct
def whileF (c : Sl → AH → Option (Bool × AH)) (b : Sl → AH → Option (Fl × Sl × AH)) : Nat → Sl → AH → Option (Fl × Sl × AH)
  | 0, _, _ => none
  | n + 1, σ, h => (c σ h).bind fun (k, h1) => if k then (b σ h1).bind fun (f, σ2, h2) => match f with
      | .nx => whileF c b n σ2 h2
      | .ct => whileF c b n σ2 h2
      | .bk => some (.nx, σ2, h2)
      | .rt d => some (.rt d, σ2, h2)
    else some (.nx, σ, h1)
def forL (tg : Tg) (n : Option Nat) (len : Nat) (b : Sl → AH → Option (Fl × Sl × AH)) : List D → Nat → Sl → AH → Option (Fl × Sl × AH)
  | [], _, σ, h => if okL n len h then some (.nx, σ, h) else none
  | x :: xs, i, σ, h => if okL n len h then (cur n i x h).bind fun y => (put tg y σ).bind fun σ1 => (b σ1 h).bind fun (f, σ2, h2) => match f with
      | .nx => forL tg n len b xs (i + 1) σ2 h2
      | .ct => forL tg n len b xs (i + 1) σ2 h2
      | .bk => some (.nx, σ2, h2)
      | .rt d => some (.rt d, σ2, h2)
    else none
mutual
def ex (fuel : Nat) : S → Sl → AH → Option (Fl × Sl × AH)
  | .set i e, σ, h => (ev C e σ h).bind fun (d, h1) => some (.nx, σ.set i (some d), h1)
  | .par2 i j a b, σ, h => (ev C a σ h).bind fun (x, h1) => (ev C b σ h1).bind fun (y, h2) => some (.nx, (σ.set i (some x)).set j (some y), h2)
  | .par3 i j k a b c, σ, h => (ev C a σ h).bind fun (x, h1) => (ev C b σ h1).bind fun (y, h2) => (ev C c σ h2).bind fun (z, h3) => some (.nx, ((σ.set i (some x)).set j (some y)).set k (some z), h3)
  | .asg t e, σ, h => (ev C e σ h).bind fun (d, h1) => (put t d σ).bind fun σ1 => some (.nx, σ1, h1)
  | .aug i op e, σ, h => match σ[i]? with
    | some (some (.int x)) => (ev C e σ h).bind fun (y, h1) => (augF op x y).bind fun z => some (.nx, σ.set i (some z), h1)
    | _ => none
  | .setIx o i e, σ, h => (ev C e σ h).bind fun (d, h1) => (ev C o σ h1).bind fun (x, h2) => (ev C i σ h2).bind fun (y, h3) => match x, y with
    | .ref n, .int k => (match h3[n]? with
      | some (.lst ds) => (place ds.length k).bind fun j => some (.nx, σ, h3.set n (.lst (ds.set j d)))
      | _ => none)
    | _, _ => none
  | .setD o i e, σ, h => (ev C e σ h).bind fun (d, h1) => (ev C o σ h1).bind fun (x, h2) => (ev C i σ h2).bind fun (y, h3) => match x with
    | .ref n => (match h3[n]? with
      | some (.dct kvs) => if kyD y && decide (kvs.length < lim) then some (.nx, σ, h3.set n (.dct (dput kvs y d))) else none
      | _ => none)
    | _ => none
  | .setI o i e, σ, h => (ev C e σ h).bind fun (d, h1) => (ev C o σ h1).bind fun (x, h2) => (ev C i σ h2).bind fun (y, h3) => (putID x y d h3).bind fun h4 => some (.nx, σ, h4)
  | .expr e, σ, h => (ev C e σ h).bind fun (_, h1) => some (.nx, σ, h1)
  | .ret e, σ, h => (ev C e σ h).bind fun (d, h1) => some (.rt d, σ, h1)
  | .retN, σ, h => some (.rt .non, σ, h)
  | .ite c t e, σ, h => (tst C c σ h).bind fun (k, h1) => if k then exs fuel t σ h1 else exs fuel e σ h1
  | .whl c b, σ, h => whileF (tst C c) (exs fuel b) fuel σ h
  | .for_ t it b, σ, h => (evI C it σ h).bind fun (xs, n, h1) => forL t n xs.length (exs fuel b) xs 0 σ h1
  | .brk, σ, h => some (.bk, σ, h)
  | .cnt, σ, h => some (.ct, σ, h)
  | .pass, σ, h => some (.nx, σ, h)
  | .raise e, σ, h => (ev C e σ h).bind fun (d, h1) => match d with
    | .int n => some (.rt (.rol [.int n]), σ, h1)
    | _ => none
  | .retV e, σ, h => (ev C e σ h).bind fun (d, h1) => match d with
    | .rol _ => none
    | d => some (.rt d, σ, h1)
  | .tryC t1 f as ks t2, σ, h => (evs C as σ h).bind fun (ds, h1) => (evs C ks σ h1).bind fun (es, h2) => (callC (C f) (ds ++ es) h2).bind fun (d, h3) => match d with
    | .rol [.int n] => some (.rt (.tup [.str t2, .int n]), σ, h3)
    | .rol _ => none
    | d => some (.rt (.tup [.str t1, d]), σ, h3)
def exs (fuel : Nat) : Ss → Sl → AH → Option (Fl × Sl × AH)
  | .nil, σ, h => some (.nx, σ, h)
  | .cons s ss, σ, h => (ex fuel s σ h).bind fun (f, σ1, h1) => match f with
    | .nx => exs fuel ss σ1 h1
    | f => some (f, σ1, h1)
end
/-- a def: n names, the parameters first; m: it answers with a list of its own that its caller may change -/
def run (m : Bool) (fuel n : Nat) (b : Ss) : Fun := fun ds h =>
  (exs C fuel b (ds.map some ++ List.replicate (n - ds.length) none) h).bind fun (f, _, h1) => match f with
    | .nx => fin m h.length .non h1
    | .rt d => fin m h.length d h1
    | _ => none
end
/-- a def by data: its name, arity, slots, its kind, its body -/
structure Df where
  x : String
  ar : Nat
  N : List String
  m : Bool
  b : Ss
  kws : List (Nat × List String) := []
  dfl : List (Nat × List D) := []
  rz : Bool := false
/-- what the defs compute, to a depth of calls -/
def tabF (L : List Df) (fuel : Nat) : Nat → Nat → Fun
  | 0, _ => fun _ _ => none
  | k + 1, i => match L[i]? with
    | some d => run (tabF L fuel k) d.m fuel d.N.length d.b
    | none => fun _ _ => none
end PyD

/-! PyD0: pure data D over the hand layer's values V; an abstract heap of mutable lists; how they are represented. -/
namespace PyD
open PySem PySem.Spec PyProof.Rows L2

/-- the fragment and the world -/
structure Kw where
  k : PySem.W.Frag
  w : World
instance : Coe Kw PySem.W.Frag := ⟨Kw.k⟩
abbrev _root_.L2.Cx.kw (X : L2.Cx) : Kw := ⟨X.K, X.w⟩
/-- the addresses of the mutable objects, by number; w: those that nobody may name -/
structure Rho where
  r : List Addr
  w : List Addr
instance : Membership Addr Rho := ⟨fun ρ a => a ∈ ρ.r ∨ a ∈ ρ.w⟩
def Rho.push (ρ : Rho) (p : Addr) : Rho := ⟨ρ.r ++ [p], ρ.w⟩
theorem Rho.mem_get {ρ : Rho} {n : Nat} {a : Addr} (h : ρ.r[n]? = some a) : a ∈ ρ := Or.inl (List.mem_of_getElem? h)
def KTup (K : Kw) (a : Addr) (xs : List V) : Prop :=
  ∃ (o : Obj) (its : Array Value) (n : Nat), K.k.lookup a = some o ∧ o.cls = .type "tuple" ∧ o.data = .seq its n ∧ its.size ≤ sizeLine ∧ Vals xs its.toList
def KLst (K : Kw) (a : Addr) (xs : List V) : Prop :=
  ∃ (o : Obj) (its : Array Value) (n : Nat), K.k.lookup a = some o ∧ o.cls = .type "list" ∧ o.dict = none ∧ o.data = .seq its n ∧ its.size ≤ sizeLine ∧ Vals xs its.toList
def QT (K : Kw) (ρ : Rho) (H : Hp) (a : Addr) (xs : List V) : Prop := (Rd H a (.tup xs) ∧ a ∉ ρ) ∨ KTup K a xs
def QL (ρ : Rho) (H : Hp) (a : Addr) (xs : List V) : Prop := H a = some (.lst xs) ∧ a ∉ ρ
def QR (K : Kw) (ρ : Rho) (H : Hp) (a : Addr) (xs : List V) : Prop := (Rd H a (.lst xs) ∧ a ∉ ρ) ∨ KLst K a xs
theorem QT.sq {K : Kw} {ρ : Rho} {H : Hp} {a : Addr} {xs : List V} (h : QT K ρ H a xs) : SqT K H a xs := h.elim (fun q => .inl q.1) .inr
theorem QL.sq {K : Kw} {ρ : Rho} {H : Hp} {a : Addr} {xs : List V} (h : QL ρ H a xs) : SqL K H a xs := .inl (.inl h.1)
theorem QR.sq {K : Kw} {ρ : Rho} {H : Hp} {a : Addr} {xs : List V} (h : QR K ρ H a xs) : SqL K H a xs := h.elim (fun q => .inl q.1) .inr

mutual
def DV (K : Kw) (ρ : Rho) (H : Hp) : D → V → Prop
  | .non, v => v = .non
  | .bl b, v => v = .bl b
  | .int i, v => v = .int i
  | .str s, v => v = .str (Str.ofString s)
  | .tup ds, v => ∃ a vs, v = .ref a ∧ QT K ρ H a vs ∧ DVs K ρ H ds vs
  | .lst ds, v => ∃ a vs, v = .ref a ∧ QL ρ H a vs ∧ DVs K ρ H ds vs
  | .rol ds, v => ∃ a vs, v = .ref a ∧ QR K ρ H a vs ∧ DVs K ρ H ds vs
  | .ref n, v => ∃ a, v = .ref a ∧ ρ.r[n]? = some a
  | .fn x, v => ∃ f, v = .ref f ∧ PySem.W.nsIn K.k mainGlobals (Str.ofString x) = some (some (.ref f))
def DVs (K : Kw) (ρ : Rho) (H : Hp) : List D → List V → Prop
  | [], vs => vs = []
  | d :: ds, vs => ∃ v r, vs = v :: r ∧ DV K ρ H d v ∧ DVs K ρ H ds r
end

/-- the world goes on: new mutable objects at the end, new hidden ones; all else that was tracked stays -/
structure Ext (ρ : Rho) (H : Hp) (ρ' : Rho) (H' : Hp) : Prop where
  more : ∃ t u, ρ' = ⟨ρ.r ++ t, u ++ ρ.w⟩ ∧ (∀ a ∈ t, H a = none) ∧ ∀ a ∈ u, H a = none
  keep : ∀ a o, H a = some o → a ∉ ρ.r → H' a = some o
  there : ∀ a, H a ≠ none → H' a ≠ none

theorem Ext.refl (ρ : Rho) (H : Hp) : Ext ρ H ρ H := ⟨⟨[], [], by simp, fun a h => (by cases h), fun a h => (by cases h)⟩, fun _ _ h _ => h, fun _ h => h⟩
theorem Ext.outr {ρ ρ' : Rho} {H H' : Hp} (e : Ext ρ H ρ' H') {a : Addr} (h : H a ≠ none) (n : a ∉ ρ.r) : a ∉ ρ'.r := by
  obtain ⟨t, u, rfl, ht, hu⟩ := e.more
  intro m
  rcases List.mem_append.mp m with m | m
  · exact n m
  · exact h (ht a m)
theorem Ext.out {ρ ρ' : Rho} {H H' : Hp} (e : Ext ρ H ρ' H') {a : Addr} (h : H a ≠ none) (n : a ∉ ρ) : a ∉ ρ' := by
  obtain ⟨t, u, rfl, ht, hu⟩ := e.more
  intro m
  rcases m with m | m
  · rcases List.mem_append.mp m with m | m
    · exact n (.inl m)
    · exact h (ht a m)
  · rcases List.mem_append.mp m with m | m
    · exact h (hu a m)
    · exact n (.inr m)
theorem Ext.trans {ρ ρ1 ρ2 : Rho} {H H1 H2 : Hp} (e : Ext ρ H ρ1 H1) (f : Ext ρ1 H1 ρ2 H2) : Ext ρ H ρ2 H2 := by
  refine ⟨?_, fun a o h n => f.keep a o (e.keep a o h n) (e.outr (by rw [h]; simp) n), fun a h => f.there a (e.there a h)⟩
  obtain ⟨t, u, rfl, ht, hu⟩ := e.more
  obtain ⟨t', u', rfl, ht', hu'⟩ := f.more
  have back : ∀ a, H1 a = none → H a = none := fun a m => by
    cases q : H a with
    | none => rfl
    | some o => exact absurd m (e.there a (by rw [q]; simp))
  refine ⟨t ++ t', u' ++ u, by simp, fun a m => ?_, fun a m => ?_⟩
  · rcases List.mem_append.mp m with m | m
    · exact ht a m
    · exact back a (ht' a m)
  · rcases List.mem_append.mp m with m | m
    · exact back a (hu' a m)
    · exact hu a m
theorem Ext.get {ρ ρ' : Rho} {H H' : Hp} (e : Ext ρ H ρ' H') {n : Nat} {a : Addr} (h : ρ.r[n]? = some a) : ρ'.r[n]? = some a := by
  obtain ⟨t, u, rfl, _⟩ := e.more
  have := (List.getElem?_eq_some_iff.mp h).1
  show (ρ.r ++ t)[n]? = some a
  rw [List.getElem?_append_left this]; exact h
theorem Ext.hidden {ρ ρ' : Rho} {H H' : Hp} (e : Ext ρ H ρ' H') {a : Addr} (h : a ∈ ρ.w) : a ∈ ρ'.w := by
  obtain ⟨t, u, rfl, _⟩ := e.more
  exact List.mem_append_right _ h
theorem keep_fresh {H : Hp} {p : Addr} {o : HO} (n : H p = none) (a : Addr) (u : HO) (h : H a = some u) : upd H p o a = some u := by
  rw [upd_ne (ne_of_none h n)]; exact h
theorem there_upd {H : Hp} {p : Addr} {o : HO} (a : Addr) (h : H a ≠ none) : upd H p o a ≠ none := by
  by_cases z : a = p
  · subst z; rw [upd_same]; simp
  · rw [upd_ne z]; exact h
theorem Ext.fresh {ρ : Rho} {H : Hp} {p : Addr} {o : HO} (n : H p = none) : Ext ρ H ρ (upd H p o) :=
  ⟨⟨[], [], by simp, fun a h => (by cases h), fun a h => (by cases h)⟩, fun a u h _ => keep_fresh n a u h, there_upd⟩
theorem Ext.push {ρ : Rho} {H : Hp} {p : Addr} {o : HO} (n : H p = none) : Ext ρ H (ρ.push p) (upd H p o) :=
  ⟨⟨[p], [], rfl, fun a h => (by cases List.mem_singleton.mp h; exact n), fun a h => (by cases h)⟩, fun a u h _ => keep_fresh n a u h, there_upd⟩
/-- an address is hidden -/
def Rho.hide (ρ : Rho) (p : Addr) : Rho := ⟨ρ.r, p :: ρ.w⟩
theorem Ext.hide {ρ : Rho} {H : Hp} {p : Addr} {o : HO} (n : H p = none) : Ext ρ H (ρ.hide p) (upd H p o) :=
  ⟨⟨[], [p], by simp [Rho.hide], fun a h => (by cases h), fun a h => (by cases List.mem_singleton.mp h; exact n)⟩, fun a u h _ => keep_fresh n a u h, there_upd⟩
theorem Ext.mut {ρ : Rho} {H : Hp} {p : Addr} {o : HO} (m : p ∈ ρ.r) : Ext ρ H ρ (upd H p o) :=
  ⟨⟨[], [], by simp, fun a h => (by cases h), fun a h => (by cases h)⟩, fun a u h q => by rw [upd_ne (fun z : a = p => q (by rw [z]; exact m))]; exact h, there_upd⟩

section
variable {K : Kw} {ρ ρ' : Rho} {H H' : Hp}
theorem Rd.ext {u : HO} {a : Addr} (e : Ext ρ H ρ' H') (h : Rd H a u) (n : a ∉ ρ) : Rd H' a u ∧ a ∉ ρ' := by
  rcases h with h | ⟨o, h⟩
  · exact ⟨.inl (e.keep _ _ h fun m => n (.inl m)), e.out (by rw [h]; simp) n⟩
  · exact ⟨.inr ⟨o, e.keep _ _ h fun m => n (.inl m)⟩, e.out (by rw [h]; simp) n⟩
theorem QT.ext {a : Addr} {xs : List V} (e : Ext ρ H ρ' H') (h : QT K ρ H a xs) : QT K ρ' H' a xs :=
  h.elim (fun q => .inl (Rd.ext e q.1 q.2)) .inr
theorem QL.ext {a : Addr} {xs : List V} (e : Ext ρ H ρ' H') (h : QL ρ H a xs) : QL ρ' H' a xs := ⟨e.keep _ _ h.1 (fun m => h.2 (.inl m)), e.out (by rw [h.1]; simp) h.2⟩
theorem QR.ext {a : Addr} {xs : List V} (e : Ext ρ H ρ' H') (h : QR K ρ H a xs) : QR K ρ' H' a xs :=
  h.elim (fun q => .inl (Rd.ext e q.1 q.2)) .inr
mutual
theorem DV.ext (e : Ext ρ H ρ' H') : ∀ (d : D) {v : V}, DV K ρ H d v → DV K ρ' H' d v
  | .non, _, h => h
  | .bl _, _, h => h
  | .int _, _, h => h
  | .str _, _, h => h
  | .fn x, _, h => by simp only [DV] at h ⊢; exact h
  | .tup ds, _, h => by
    simp only [DV] at h ⊢
    obtain ⟨a, vs, e1, q, r⟩ := h
    exact ⟨a, vs, e1, q.ext e, DVs.ext e ds r⟩
  | .lst ds, _, h => by
    simp only [DV] at h ⊢
    obtain ⟨a, vs, e1, q, r⟩ := h
    exact ⟨a, vs, e1, q.ext e, DVs.ext e ds r⟩
  | .rol ds, _, h => by
    simp only [DV] at h ⊢
    obtain ⟨a, vs, e1, q, r⟩ := h
    exact ⟨a, vs, e1, q.ext e, DVs.ext e ds r⟩
  | .ref n, _, h => by
    simp only [DV] at h ⊢
    obtain ⟨a, e1, q⟩ := h
    exact ⟨a, e1, e.get q⟩
theorem DVs.ext (e : Ext ρ H ρ' H') : ∀ (ds : List D) {vs : List V}, DVs K ρ H ds vs → DVs K ρ' H' ds vs
  | [], _, h => h
  | d :: ds, _, h => by
    simp only [DVs] at h ⊢
    obtain ⟨v, r, e1, q, z⟩ := h
    exact ⟨v, r, e1, DV.ext e d q, DVs.ext e ds z⟩
end
theorem DVs.length : ∀ {ds : List D} {vs : List V}, DVs K ρ H ds vs → ds.length = vs.length
  | [], _, h => by simp only [DVs] at h; subst h; rfl
  | d :: ds, _, h => by
    simp only [DVs] at h
    obtain ⟨v, r, rfl, _, z⟩ := h
    simp [DVs.length z]
theorem DVs.get : ∀ {ds : List D} {vs : List V} {i : Nat} {d : D}, DVs K ρ H ds vs → ds[i]? = some d → ∃ v, vs[i]? = some v ∧ DV K ρ H d v
  | [], _, _, _, _, e => by simp at e
  | d :: ds, _, 0, _, h, e => by
    simp only [DVs] at h
    obtain ⟨v, r, rfl, q, z⟩ := h
    simp at e; subst e
    exact ⟨v, by simp, q⟩
  | d :: ds, _, i + 1, _, h, e => by
    simp only [DVs] at h
    obtain ⟨v, r, rfl, q, z⟩ := h
    obtain ⟨w, e1, q1⟩ := DVs.get (i := i) z (by simpa using e)
    exact ⟨w, by simpa using e1, q1⟩
theorem DVs.get' {ds : List D} {vs : List V} {i : Nat} {v : V} (h : DVs K ρ H ds vs) (e : vs[i]? = some v) : ∃ d, ds[i]? = some d ∧ DV K ρ H d v := by
  have hl := h.length
  have hi := (List.getElem?_eq_some_iff.mp e).1
  have hd : ds[i]? = some ds[i] := List.getElem?_eq_getElem (by omega)
  obtain ⟨w, e1, q⟩ := h.get hd
  rw [e] at e1; cases e1
  exact ⟨_, hd, q⟩
theorem DVs.append : ∀ {ds es : List D} {vs us : List V}, DVs K ρ H ds vs → DVs K ρ H es us → DVs K ρ H (ds ++ es) (vs ++ us)
  | [], _, _, _, h, g => by simp only [DVs] at h; subst h; exact g
  | d :: ds, _, _, _, h, g => by
    simp only [DVs] at h
    obtain ⟨v, r, rfl, q, z⟩ := h
    simp only [List.cons_append, DVs]
    exact ⟨v, _, rfl, q, DVs.append z g⟩
theorem DVs.one {d : D} {v : V} (h : DV K ρ H d v) : DVs K ρ H [d] [v] := by
  simp only [DVs]; exact ⟨v, [], rfl, h, rfl⟩
theorem DVs.nil : DVs K ρ H [] [] := by simp only [DVs]
theorem DVs.cons {d : D} {v : V} {ds : List D} {vs : List V} (h : DV K ρ H d v) (g : DVs K ρ H ds vs) : DVs K ρ H (d :: ds) (v :: vs) := by
  simp only [DVs]; exact ⟨v, vs, rfl, h, g⟩
theorem DVs.drop : ∀ (n : Nat) {ds : List D} {vs : List V}, DVs K ρ H ds vs → DVs K ρ H (ds.drop n) (vs.drop n)
  | 0, _, _, h => h
  | n + 1, [], _, h => by simp only [DVs] at h; subst h; exact .nil
  | n + 1, d :: ds, _, h => by
    simp only [DVs] at h
    obtain ⟨v, r, rfl, q, z⟩ := h
    exact DVs.drop n z
theorem DVs.take : ∀ (n : Nat) {ds : List D} {vs : List V}, DVs K ρ H ds vs → DVs K ρ H (ds.take n) (vs.take n)
  | 0, _, _, h => .nil
  | n + 1, [], _, h => by simp only [DVs] at h; subst h; exact .nil
  | n + 1, d :: ds, _, h => by
    simp only [DVs] at h
    obtain ⟨v, r, rfl, q, z⟩ := h
    exact .cons q (DVs.take n z)
theorem DVs.set {d : D} {v : V} (g : DV K ρ H d v) : ∀ (n : Nat) {ds : List D} {vs : List V}, DVs K ρ H ds vs → DVs K ρ H (ds.set n d) (vs.set n v)
  | _, [], _, h => by simp only [DVs] at h; subst h; exact .nil
  | 0, e :: ds, _, h => by
    simp only [DVs] at h
    obtain ⟨w, r, rfl, q, z⟩ := h
    exact .cons g z
  | n + 1, e :: ds, _, h => by
    simp only [DVs] at h
    obtain ⟨w, r, rfl, q, z⟩ := h
    exact .cons q (DVs.set g n z)
theorem DVs.reverse : ∀ {ds : List D} {vs : List V}, DVs K ρ H ds vs → DVs K ρ H ds.reverse vs.reverse
  | [], _, h => by simp only [DVs] at h; subst h; exact .nil
  | d :: ds, _, h => by
    simp only [DVs] at h
    obtain ⟨v, r, rfl, q, z⟩ := h
    simp only [List.reverse_cons]
    exact (DVs.reverse z).append (.one q)
theorem DVs.dropLast {ds : List D} {vs : List V} (h : DVs K ρ H ds vs) : DVs K ρ H ds.dropLast vs.dropLast := by
  rw [List.dropLast_eq_take, List.dropLast_eq_take, h.length]; exact h.take _
theorem DVs.replicate {d : D} {v : V} (g : DV K ρ H d v) : ∀ n : Nat, DVs K ρ H (List.replicate n d) (List.replicate n v)
  | 0 => .nil
  | n + 1 => .cons g (DVs.replicate g n)
theorem DVs.rep {ds : List D} {vs : List V} (g : DVs K ρ H ds vs) : ∀ n : Nat, DVs K ρ H (List.replicate n ds).flatten (List.replicate n vs).flatten
  | 0 => .nil
  | n + 1 => by
    simp only [List.replicate_succ, List.flatten_cons]
    exact g.append (DVs.rep g n)
theorem DVs.ints : ∀ {ns : List Int} {vs : List V}, DVs K ρ H (ns.map D.int) vs → vs = ns.map V.int
  | [], _, h => by simp only [List.map_nil, DVs] at h; exact h
  | n :: ns, _, h => by
    simp only [List.map_cons, DVs, DV] at h
    obtain ⟨v, r, rfl, rfl, z⟩ := h
    rw [DVs.ints z, List.map_cons]
theorem DVs.of_ints : ∀ (ns : List Int), DVs K ρ H (ns.map D.int) (ns.map V.int)
  | [] => .nil
  | n :: ns => by
    simp only [List.map_cons]
    exact .cons (by simp only [DV]) (DVs.of_ints ns)
end

mutual
def nk : D → NestedKey
  | .non => .none
  | .bl b => .num (if b then 1 else 0)
  | .int i => .num i
  | .str s => .text (Str.ofString s)
  | .tup ds => .tup (nks ds)
  | .lst _ => .none
  | .rol _ => .none
  | .ref _ => .none
  | .fn _ => .none
def nks : List D → List NestedKey
  | [] => []
  | d :: ds => nk d :: nks ds
end
/-- a dict's entry is represented -/
def EOk (K : Kw) (ρ : Rho) (H : Hp) (p : D × D) (q : NestedKey × Addr × Value) : Prop := kyD p.1 = true ∧ q.1 = nk p.1 ∧ DV K ρ H p.1 (.ref q.2.1) ∧ ∃ v, DV K ρ H p.2 v ∧ RelV v q.2.2
/-- the object of a dict -/
def dctPhi (w : World) (a : Addr) (xs : List (NestedKey × Addr × Value)) : Heap → Prop := fun h => ∃ o es ep, h.get? a = some o ∧ o.ExactDict ∧ o.data = .dict es ep ∧ es.toList = xs.map (fun x => (⟨x.1.hash w, .ref x.2.1, x.2.2⟩ : DictEntry)) ∧ (xs.map (·.1)).Nodup
/-- a mutable object is represented -/
def AOk (K : Kw) (ρ : Rho) (H : Hp) (a : Addr) : AO → Prop
  | .lst ds => ∃ vs, H a = some (.lst vs) ∧ DVs K ρ H ds vs
  | .dct kvs => (a == sysModules) = false ∧ ∃ xs, Paired (EOk K ρ H) kvs xs ∧ H a = some (.ext (dctPhi K.w a xs))
  | .ids ks => H a = some (.dK (ks.map fun k => (Sum.inl k, V.bl true)))
structure RepH (K : Kw) (ρ : Rho) (H : Hp) (h : AH) : Prop where
  len : ρ.r.length = h.length
  nd : ρ.r.Nodup
  hid : ∀ a ∈ ρ.w, a ∉ ρ.r ∧ H a ≠ none
  obj : ∀ (n : Nat) (a : Addr) (o : AO), ρ.r[n]? = some a → h[n]? = some o → AOk K ρ H a o
structure RepS (K : Kw) (ρ : Rho) (H : Hp) (σ : L2.St) (σd : Sl) : Prop where
  len : σ.length = σd.length
  val : ∀ (i : Nat) (d : D), σd[i]? = some (some d) → ∃ v, σ[i]? = some (some v) ∧ DV K ρ H d v

section
variable {K : Kw} {ρ ρ' : Rho} {H H' : Hp} {h : AH} {σ : L2.St} {σd : Sl}
theorem EOk.ext {p : D × D} {q : NestedKey × Addr × Value} (e : Ext ρ H ρ' H') (h : EOk K ρ H p q) : EOk K ρ' H' p q := let ⟨c, n, k, v, y, r⟩ := h; ⟨c, n, DV.ext e _ k, v, DV.ext e _ y, r⟩
theorem AOk.some {a : Addr} {o : AO} (q : AOk K ρ H a o) : ∃ u, H a = some u := by
  cases o with
  | lst ds => obtain ⟨vs, e, _⟩ := q; exact ⟨_, e⟩
  | dct kvs => obtain ⟨_, xs, _, e⟩ := q; exact ⟨_, e⟩
  | ids ks => exact ⟨_, q⟩
theorem RepH.at (r : RepH K ρ H h) {n : Nat} {o : AO} (e : h[n]? = some o) : ∃ a, ρ.r[n]? = some a ∧ AOk K ρ H a o := by
  have hn := (List.getElem?_eq_some_iff.mp e).1
  have hl := r.len
  exact ⟨ρ.r[n], List.getElem?_eq_getElem (by omega), r.obj n _ o (List.getElem?_eq_getElem (by omega)) e⟩
theorem RepH.at' (r : RepH K ρ H h) {n : Nat} {a : Addr} (e : ρ.r[n]? = some a) : ∃ o, h[n]? = some o ∧ AOk K ρ H a o := by
  have hn := (List.getElem?_eq_some_iff.mp e).1
  have hl := r.len
  exact ⟨h[n], List.getElem?_eq_getElem (by omega), r.obj n _ _ e (List.getElem?_eq_getElem (by omega))⟩
theorem RepH.mem (r : RepH K ρ H h) {a : Addr} (m : a ∈ ρ) : H a ≠ none := by
  rcases m with m | m
  · obtain ⟨n, hn, e⟩ := List.getElem_of_mem m
    obtain ⟨o, _, q⟩ := r.at' (n := n) (a := a) (by rw [List.getElem?_eq_getElem hn, e])
    obtain ⟨u, e⟩ := q.some
    rw [e]; simp
  · exact (r.hid a m).2
theorem RepH.notMem (r : RepH K ρ H h) {p : Addr} (n : H p = none) : p ∉ ρ := fun m => r.mem m n
theorem AOk.ext {a : Addr} {o : AO} (e : Ext ρ H ρ' H') (hk : H' a = H a) (q : AOk K ρ H a o) : AOk K ρ' H' a o := by
  cases o with
  | lst ds => obtain ⟨vs, e1, r⟩ := q; exact ⟨vs, hk.trans e1, DVs.ext e ds r⟩
  | dct kvs => obtain ⟨z, xs, r, e1⟩ := q; exact ⟨z, xs, Paired.mapP r fun _ _ y => y.ext e, hk.trans e1⟩
  | ids ks => exact hk.trans q
theorem RepH.fresh (r : RepH K ρ H h) {p : Addr} {o : HO} (n : H p = none) : RepH K ρ (upd H p o) h :=
  ⟨r.len, r.nd, fun a m => ⟨(r.hid a m).1, (Ext.fresh (ρ := ρ) n).there a (r.hid a m).2⟩, fun i a u e1 e2 => (r.obj i a u e1 e2).ext (Ext.fresh n) (upd_ne (fun z : a = p => r.notMem n (by rw [← z]; exact Rho.mem_get e1)))⟩
theorem RepH.push (r : RepH K ρ H h) {p : Addr} {vs : List V} {ds : List D} (n : H p = none) (q : DVs K ρ H ds vs) : RepH K (ρ.push p) (upd H p (.lst vs)) (h ++ [.lst ds]) := by
  have np : p ∉ ρ.r := fun z => r.notMem n (.inl z)
  refine ⟨by simp [Rho.push, r.len], ?_, fun a m => ⟨fun z => ?_, (Ext.fresh (ρ := ρ) n).there a (r.hid a m).2⟩, fun i a u e1 e2 => ?_⟩
  · show (ρ.r ++ [p]).Nodup
    rw [List.nodup_append]
    refine ⟨r.nd, by simp, fun a ha b hb => ?_⟩
    cases List.mem_singleton.mp hb
    intro z; subst z
    exact np ha
  · rcases List.mem_append.mp z with z | z
    · exact (r.hid a m).1 z
    · cases List.mem_singleton.mp z
      exact r.notMem n (.inr m)
  · have e : Ext ρ H (ρ.push p) (upd H p (.lst vs)) := Ext.push n
    have e1 : (ρ.r ++ [p])[i]? = some a := e1
    by_cases hi : i < ρ.r.length
    · rw [List.getElem?_append_left hi] at e1
      rw [List.getElem?_append_left (by rw [← r.len]; exact hi)] at e2
      exact (r.obj i a u e1 e2).ext e (upd_ne (fun z : a = p => r.notMem n (by rw [← z]; exact Rho.mem_get e1)))
    · have h1 : i = ρ.r.length := by
        have := (List.getElem?_eq_some_iff.mp e1).1
        simp at this; omega
      subst h1
      rw [List.getElem?_append_right (Nat.le_refl _)] at e1
      rw [List.getElem?_append_right (by rw [r.len]; exact Nat.le_refl _)] at e2
      simp [r.len] at e1 e2
      subst e1; subst e2
      exact ⟨vs, upd_same, DVs.ext e ds q⟩
theorem RepH.set (r : RepH K ρ H h) {k : Nat} {p : Addr} {vs : List V} {ds : List D} (hk : ρ.r[k]? = some p) (q : DVs K ρ H ds vs) : RepH K ρ (upd H p (.lst vs)) (h.set k (.lst ds)) := by
  have e : Ext ρ H ρ (upd H p (.lst vs)) := Ext.mut (List.mem_of_getElem? hk)
  refine ⟨by simp [r.len], r.nd, fun a m => ⟨(r.hid a m).1, e.there a (r.hid a m).2⟩, fun i a u e1 e2 => ?_⟩
  by_cases hi : i = k
  · subst hi
    rw [hk] at e1; cases e1
    have hl := (List.getElem?_eq_some_iff.mp hk).1
    rw [r.len] at hl
    rw [List.getElem?_set_self hl] at e2
    cases e2
    exact ⟨vs, upd_same, DVs.ext e ds q⟩
  · rw [List.getElem?_set_ne (Ne.symm hi)] at e2
    refine (r.obj i a u e1 e2).ext e (upd_ne fun z => hi ?_)
    subst z
    obtain ⟨h1, e1'⟩ := List.getElem?_eq_some_iff.mp e1
    obtain ⟨h2, e2'⟩ := List.getElem?_eq_some_iff.mp hk
    exact (List.getElem_inj r.nd).mp (e1'.trans e2'.symm)
theorem RepH.hide (r : RepH K ρ H h) {p : Addr} {o : HO} (n : H p = none) : RepH K (ρ.hide p) (upd H p o) h := by
  have e : Ext ρ H (ρ.hide p) (upd H p o) := Ext.hide n
  refine ⟨r.len, r.nd, fun a m => ?_, fun i a u e1 e2 => ?_⟩
  · rcases List.mem_cons.mp m with z | m
    · subst z
      exact ⟨fun z => r.notMem n (.inl z), by rw [upd_same]; simp⟩
    · exact ⟨(r.hid a m).1, e.there a (r.hid a m).2⟩
  · exact (r.obj i a u e1 e2).ext e (upd_ne fun z => r.notMem n (by rw [← z]; exact Rho.mem_get e1))
mutual
/-- fewer are hidden -/
theorem DV.less (hr : ρ'.r = ρ.r) (hw : ∀ a ∈ ρ'.w, a ∈ ρ.w) : ∀ (d : D) {v : V}, DV K ρ H d v → DV K ρ' H d v
  | .non, _, h => h
  | .bl _, _, h => h
  | .int _, _, h => h
  | .str _, _, h => h
  | .fn x, _, h => by simp only [DV] at h ⊢; exact h
  | .tup ds, _, h => by
    simp only [DV] at h ⊢
    obtain ⟨a, vs, e1, q, r⟩ := h
    exact ⟨a, vs, e1, q.elim (fun q => .inl ⟨q.1, fun m => q.2 (m.elim (fun m => .inl (hr ▸ m)) fun m => .inr (hw a m))⟩) .inr, DVs.less hr hw ds r⟩
  | .lst ds, _, h => by
    simp only [DV] at h ⊢
    obtain ⟨a, vs, e1, q, r⟩ := h
    exact ⟨a, vs, e1, ⟨q.1, fun m => q.2 (m.elim (fun m => .inl (hr ▸ m)) fun m => .inr (hw a m))⟩, DVs.less hr hw ds r⟩
  | .rol ds, _, h => by
    simp only [DV] at h ⊢
    obtain ⟨a, vs, e1, q, r⟩ := h
    exact ⟨a, vs, e1, q.elim (fun q => .inl ⟨q.1, fun m => q.2 (m.elim (fun m => .inl (hr ▸ m)) fun m => .inr (hw a m))⟩) .inr, DVs.less hr hw ds r⟩
  | .ref k, _, h => by
    simp only [DV] at h ⊢
    rw [hr]; exact h
theorem DVs.less (hr : ρ'.r = ρ.r) (hw : ∀ a ∈ ρ'.w, a ∈ ρ.w) : ∀ (ds : List D) {vs : List V}, DVs K ρ H ds vs → DVs K ρ' H ds vs
  | [], _, h => h
  | d :: ds, _, h => by
    simp only [DVs] at h ⊢
    obtain ⟨v, r, e1, q, z⟩ := h
    exact ⟨v, r, e1, DV.less hr hw d q, DVs.less hr hw ds z⟩
end
theorem RepH.less (r : RepH K ρ H h) (hr : ρ'.r = ρ.r) (hw : ∀ a ∈ ρ'.w, a ∈ ρ.w) : RepH K ρ' H h :=
  ⟨by rw [hr]; exact r.len, by rw [hr]; exact r.nd, fun a m => by rw [hr]; exact r.hid a (hw a m), fun i a u e1 e2 => by
    have q := r.obj i a u (by rw [← hr]; exact e1) e2
    cases u with
    | lst ds => obtain ⟨vs, e3, y⟩ := q; exact ⟨vs, e3, DVs.less hr hw ds y⟩
    | dct kvs => obtain ⟨z, xs, y, e3⟩ := q; exact ⟨z, xs, Paired.mapP y fun _ _ ⟨c, n, k, v, y, r⟩ => ⟨c, n, DV.less hr hw _ k, v, DV.less hr hw _ y, r⟩, e3⟩
    | ids ks => exact q⟩
mutual
/-- what is hidden, or a mutable object, may be written: no data that are shared see it -/
theorem DV.upd {p : Addr} {o : HO} (m : p ∈ ρ) : ∀ (d : D) {v : V}, DV K ρ H d v → DV K ρ (L2.upd H p o) d v
  | .non, _, h => h
  | .bl _, _, h => h
  | .int _, _, h => h
  | .str _, _, h => h
  | .fn x, _, h => by simp only [DV] at h ⊢; exact h
  | .tup ds, _, h => by
    simp only [DV] at h ⊢
    obtain ⟨a, vs, e1, q, r⟩ := h
    refine ⟨a, vs, e1, q.elim (fun q => .inl ⟨?_, q.2⟩) .inr, DVs.upd m ds r⟩
    have ne : a ≠ p := fun z => q.2 (z ▸ m)
    rcases q.1 with z | ⟨o, z⟩
    · exact .inl (by rw [upd_ne ne]; exact z)
    · exact .inr ⟨o, by rw [upd_ne ne]; exact z⟩
  | .lst ds, _, h => by
    simp only [DV] at h ⊢
    obtain ⟨a, vs, e1, q, r⟩ := h
    have ne : a ≠ p := fun z => q.2 (z ▸ m)
    exact ⟨a, vs, e1, ⟨by rw [upd_ne ne]; exact q.1, q.2⟩, DVs.upd m ds r⟩
  | .rol ds, _, h => by
    simp only [DV] at h ⊢
    obtain ⟨a, vs, e1, q, r⟩ := h
    refine ⟨a, vs, e1, q.elim (fun q => .inl ⟨?_, q.2⟩) .inr, DVs.upd m ds r⟩
    have ne : a ≠ p := fun z => q.2 (z ▸ m)
    rcases q.1 with z | ⟨o, z⟩
    · exact .inl (by rw [upd_ne ne]; exact z)
    · exact .inr ⟨o, by rw [upd_ne ne]; exact z⟩
  | .ref k, _, h => h
theorem DVs.upd {p : Addr} {o : HO} (m : p ∈ ρ) : ∀ (ds : List D) {vs : List V}, DVs K ρ H ds vs → DVs K ρ (L2.upd H p o) ds vs
  | [], _, h => h
  | d :: ds, _, h => by
    simp only [DVs] at h ⊢
    obtain ⟨v, r, e1, q, z⟩ := h
    exact ⟨v, r, e1, DV.upd m d q, DVs.upd m ds z⟩
end
theorem RepH.updw (r : RepH K ρ H h) {p : Addr} {o : HO} (m : p ∈ ρ.w) : RepH K ρ (L2.upd H p o) h :=
  ⟨r.len, r.nd, fun a m => ⟨(r.hid a m).1, there_upd a (r.hid a m).2⟩, fun i a u e1 e2 => by
    have ne : a ≠ p := fun z => (r.hid p m).1 (by rw [← z]; exact List.mem_of_getElem? e1)
    have q := r.obj i a u e1 e2
    cases u with
    | lst ds => obtain ⟨vs, e3, y⟩ := q; exact ⟨vs, by rw [upd_ne ne]; exact e3, DVs.upd (.inr m) ds y⟩
    | dct kvs => obtain ⟨z, xs, y, e3⟩ := q; exact ⟨z, xs, Paired.mapP y fun _ _ ⟨c, n, k, v, y, r⟩ => ⟨c, n, DV.upd (.inr m) _ k, v, DV.upd (.inr m) _ y, r⟩, by rw [upd_ne ne]; exact e3⟩
    | ids ks => exact (upd_ne ne).trans q⟩
theorem RepS.updw (r : RepS K ρ H σ σd) {p : Addr} {o : HO} (m : p ∈ ρ.w) : RepS K ρ (L2.upd H p o) σ σd :=
  ⟨r.len, fun i d q => let ⟨v, e1, z⟩ := r.val i d q; ⟨v, e1, DV.upd (.inr m) d z⟩⟩
theorem Ext.updw {ρ ρ' : Rho} {H H' : Hp} (e : Ext ρ H ρ' H') {p : Addr} {o : HO} (n : H p = none) : Ext ρ H ρ' (L2.upd H' p o) :=
  ⟨e.more, fun a u h q => by rw [upd_ne (ne_of_none h n)]; exact e.keep a u h q, fun a h => there_upd a (e.there a h)⟩
/-- .. and shown -/
theorem Ext.show {ρ ρ' : Rho} {H H' : Hp} (e : Ext ρ H ρ' H') {p : Addr} (n : H p = none) (nr : p ∉ ρ'.r) (nw : p ∉ ρ.w) : ∃ ρf : Rho, Ext ρ H ρf H' ∧ p ∉ ρf ∧ ρf.r = ρ'.r ∧ ∀ a ∈ ρf.w, a ∈ ρ'.w := by
  obtain ⟨t, u, rfl, ht, hu⟩ := e.more
  refine ⟨⟨ρ.r ++ t, u.filter (fun a => decide (a ≠ p)) ++ ρ.w⟩, ⟨⟨t, _, rfl, ht, fun a m => hu a (List.mem_filter.mp m).1⟩, e.keep, e.there⟩, fun m => ?_, rfl, fun a m => ?_⟩
  · rcases m with m | m
    · exact nr m
    · rcases List.mem_append.mp m with m | m
      · have := (List.mem_filter.mp m).2
        simp at this
      · exact nw m
  · rcases List.mem_append.mp m with m | m
    · exact List.mem_append_left _ (List.mem_filter.mp m).1
    · exact List.mem_append_right _ m
theorem RepS.ext (r : RepS K ρ H σ σd) (e : Ext ρ H ρ' H') : RepS K ρ' H' σ σd :=
  ⟨r.len, fun i d q => let ⟨v, e1, z⟩ := r.val i d q; ⟨v, e1, DV.ext e d z⟩⟩
theorem RepS.set (r : RepS K ρ H σ σd) {i : Nat} {d : D} {v : V} (q : DV K ρ H d v) : RepS K ρ H (σ.set i (some v)) (σd.set i (some d)) := by
  refine ⟨by simp [r.len], fun j e h => ?_⟩
  by_cases hj : j = i
  · subst hj
    have hl := (List.getElem?_eq_some_iff.mp h).1
    rw [List.length_set] at hl
    rw [List.getElem?_set_self hl] at h
    cases h
    exact ⟨v, by rw [List.getElem?_set_self (by rw [r.len]; exact hl)], q⟩
  · rw [List.getElem?_set_ne (Ne.symm hj)] at h
    obtain ⟨w, e1, z⟩ := r.val j e h
    exact ⟨w, by rw [List.getElem?_set_ne (Ne.symm hj)]; exact e1, z⟩
end
end PyD

/-! PyD1: readings by data; operators. -/
namespace PyD
open PySem PySem.Spec PyProof.Rows L2

theorem lim_eq : (sizeLine : Nat) = lim := sizeLine_eq

/-- what is wanted behind an expression, by data -/
def Out (K : Kw) (ρ : Rho) (H : Hp) (d : D) (h' : AH) (Q : VK) : Prop :=
  ∀ v H' ρ', Ext ρ H ρ' H' → RepH K ρ' H' h' → DV K ρ' H' d v → Q v H'
def tD (K : Kw) (m : Sl → AH → Option (D × AH)) : TE := fun σ H Q =>
  ∃ ρ σd h d h', RepS K ρ H σ σd ∧ RepH K ρ H h ∧ m σd h = some (d, h') ∧ Out K ρ H d h' Q
def tDs (K : Kw) (m : Sl → AH → Option (List D × AH)) : TA := fun σ H Q =>
  ∃ ρ σd h ds h', RepS K ρ H σ σd ∧ RepH K ρ H h ∧ m σd h = some (ds, h') ∧ ∀ vs H' ρ', Ext ρ H ρ' H' → RepH K ρ' H' h' → DVs K ρ' H' ds vs → Q vs H'
def tDT (K : Kw) (m : Sl → AH → Option (Bool × AH)) : TT := fun σ H Q =>
  ∃ ρ σd h b h', RepS K ρ H σ σd ∧ RepH K ρ H h ∧ m σd h = some (b, h') ∧ ∀ H' ρ', Ext ρ H ρ' H' → RepH K ρ' H' h' → Q b H'
def tDO (K : Kw) (m : Sl → AH → Option (Option Int × AH)) : TO := fun σ H Q =>
  ∃ ρ σd h b h', RepS K ρ H σ σd ∧ RepH K ρ H h ∧ m σd h = some (b, h') ∧ ∀ H' ρ', Ext ρ H ρ' H' → RepH K ρ' H' h' → Q b H'
/-- a list is made, at last -/
def tDF (K : Kw) (m : Sl → AH → Option (List D × AH)) : TE := fun σ H Q =>
  ∃ ρ σd h ds h', RepS K ρ H σ σd ∧ RepH K ρ H h ∧ m σd h = some (ds, h') ∧
    ∀ p vs H' ρ', Ext ρ H ρ' H' → RepH K ρ' H' h' → H' p = none → DVs K ρ' H' ds vs → Q (.ref p) (upd H' p (.lst vs))

abbrev RE (X : Cx) (e : Expr) (m : Sl → AH → Option (D × AH)) : Prop := PE X e (tD X.kw m)
abbrev RT (X : Cx) (e : Expr) (m : Sl → AH → Option (Bool × AH)) : Prop := PT X e (tDT X.kw m)
abbrev RA (X : Cx) (es : List Expr) (m : Sl → AH → Option (List D × AH)) : Prop := PA X es (tDs X.kw m)
abbrev RO (X : Cx) (e : Option Expr) (m : Sl → AH → Option (Option Int × AH)) : Prop := PO X e (tDO X.kw m)
abbrev RF (X : Cx) (e : Expr) (m : Sl → AH → Option (List D × AH)) : Prop := PE X e (tDF X.kw m)

section
variable {X : Cx} {e : Expr}
theorem _root_.L2.PE.imp {t t' : TE} (h : PE X e t) (i : ∀ σ H Q, t' σ H Q → t σ H Q) : PE X e t' := ⟨fun pins s σ H Q I q => h.run pins s σ H Q I (i σ H Q q)⟩
theorem _root_.L2.PT.imp {t t' : TT} (h : PT X e t) (i : ∀ σ H Q, t' σ H Q → t σ H Q) : PT X e t' := ⟨fun pins s σ H Q I q => h.run pins s σ H Q I (i σ H Q q)⟩
theorem _root_.L2.PW.imp {t t' : TT} (h : PW X e t) (i : ∀ σ H Q, t' σ H Q → t σ H Q) : PW X e t' := ⟨fun wh pins s σ H Q I q => h.run wh pins s σ H Q I (i σ H Q q)⟩
theorem _root_.L2.PA.imp {es : List Expr} {t t' : TA} (h : PA X es t) (i : ∀ σ H Q, t' σ H Q → t σ H Q) : PA X es t' := ⟨fun pos pins s σ H Q I q => h.run pos pins s σ H Q I (i σ H Q q)⟩
theorem _root_.L2.PO.imp {o : Option Expr} {t t' : TO} (h : PO X o t) (i : ∀ σ H Q, t' σ H Q → t σ H Q) : PO X o t' := ⟨fun pins s σ H Q I q => h.run pins s σ H Q I (i σ H Q q)⟩
theorem _root_.L2.PS.imp {st : Stmt} {t t' : TS} (h : PS X st t) (i : ∀ D σ H, t' D σ H → t D σ H) : PS X st t' := ⟨fun pins s σ H D I q => h.run pins s σ H D I (i D σ H q)⟩
theorem _root_.L2.PSs.imp {st : List Stmt} {t t' : TS} (h : PSs X st t) (i : ∀ D σ H, t' D σ H → t D σ H) : PSs X st t' := ⟨fun pins s σ H D I q => h.run pins s σ H D I (i D σ H q)⟩
end

section
variable {K : Kw} {ρ ρ' : Rho} {H H' : Hp} {h h' : AH} {d : D} {v : V} {Q : VK}
theorem Out.here (o : Out K ρ H d h Q) (r : RepH K ρ H h) (q : DV K ρ H d v) : Q v H := o v H ρ (Ext.refl _ _) r q
theorem Out.ext (o : Out K ρ H d h' Q) (e : Ext ρ H ρ' H') : Out K ρ' H' d h' Q := fun v H2 ρ2 e2 r q => o v H2 ρ2 (e.trans e2) r q
/-- a new tuple -/
theorem Out.tup {ds : List D} {vs : List V} (o : Out K ρ H (.tup ds) h Q) (r : RepH K ρ H h) (q : DVs K ρ H ds vs) : ∀ p, H p = none → Q (.ref p) (upd H p (.tup vs)) := fun p n => by
  refine o _ _ ρ (Ext.fresh n) (r.fresh n) ?_
  simp only [DV]
  exact ⟨p, vs, rfl, .inl ⟨.inl upd_same, r.notMem n⟩, DVs.ext (Ext.fresh n) ds q⟩
theorem Out.lst {ds : List D} {vs : List V} (o : Out K ρ H (.lst ds) h Q) (r : RepH K ρ H h) (q : DVs K ρ H ds vs) : ∀ p, H p = none → Q (.ref p) (upd H p (.lst vs)) := fun p n => by
  refine o _ _ ρ (Ext.fresh n) (r.fresh n) ?_
  simp only [DV]
  exact ⟨p, vs, rfl, ⟨upd_same, r.notMem n⟩, DVs.ext (Ext.fresh n) ds q⟩
end

/-- a two-place operation on data -/
def rB (K : Kw) (g : D → D → AH → Option D) : R2 := fun x y H Q =>
  ∃ ρ h a b d, RepH K ρ H h ∧ DV K ρ H a x ∧ DV K ρ H b y ∧ g a b h = some d ∧ Out K ρ H d h Q
def rU1 (K : Kw) (g : D → AH → Option D) : V → Hp → VK → Prop := fun x H Q =>
  ∃ ρ h a d, RepH K ρ H h ∧ DV K ρ H a x ∧ g a h = some d ∧ Out K ρ H d h Q
theorem tOp_imp {K : Kw} {ma mb : Sl → AH → Option (D × AH)} {g : D → D → AH → Option D} (σ : L2.St) (H : Hp) (Q : VK)
    (q : tD K (fun σ h => (ma σ h).bind fun (x, h1) => (mb σ h1).bind fun (y, h2) => (g x y h2).bind fun z => some (z, h2)) σ H Q) : tOp (rB K g) (tD K ma) (tD K mb) σ H Q := by
  obtain ⟨ρ, σd, h, d, h', rs, rh, e, o⟩ := q
  cases ea : ma σd h with
  | none => simp [ea] at e
  | some p =>
    obtain ⟨x, h1⟩ := p
    cases eb : mb σd h1 with
    | none => simp [ea, eb] at e
    | some p =>
      obtain ⟨y, h2⟩ := p
      cases eg : g x y h2 with
      | none => simp [ea, eb, eg] at e
      | some z =>
        simp [ea, eb, eg] at e
        obtain ⟨rfl, rfl⟩ := e
        refine ⟨ρ, σd, h, x, h1, rs, rh, ea, fun v H1 ρ1 e1 r1 q1 => ⟨ρ1, σd, h1, y, h2, rs.ext e1, r1, eb, fun w H2 ρ2 e2 r2 q2 => ⟨ρ2, h2, x, y, z, r2, DV.ext e2 x q1, q2, eg, o.ext (e1.trans e2)⟩⟩⟩
theorem tUn_imp {K : Kw} {ma : Sl → AH → Option (D × AH)} {g : D → AH → Option D} (σ : L2.St) (H : Hp) (Q : VK)
    (q : tD K (fun σ h => (ma σ h).bind fun (x, h1) => (g x h1).bind fun z => some (z, h1)) σ H Q) : tUn (rU1 K g) (tD K ma) σ H Q := by
  obtain ⟨ρ, σd, h, d, h', rs, rh, e, o⟩ := q
  cases ea : ma σd h with
  | none => simp [ea] at e
  | some p =>
    obtain ⟨x, h1⟩ := p
    cases eg : g x h1 with
    | none => simp [ea, eg] at e
    | some z =>
      simp [ea, eg] at e
      obtain ⟨rfl, rfl⟩ := e
      exact ⟨ρ, σd, h, x, h1, rs, rh, ea, fun v H1 ρ1 e1 r1 q1 => ⟨ρ1, h1, x, z, r1, q1, eg, o.ext e1⟩⟩

section
variable {K : Kw} {ρ : Rho} {H : Hp} {h : AH} {d : D} {v : V}
theorem DV.i {i : Int} (q : DV K ρ H (.int i) v) : v = .int i := by simpa only [DV] using q
theorem DV.s {i : String} (q : DV K ρ H (.str i) v) : v = .str (Str.ofString i) := by simpa only [DV] using q
theorem DV.b {i : Bool} (q : DV K ρ H (.bl i) v) : v = .bl i := by simpa only [DV] using q
theorem DV.n (q : DV K ρ H .non v) : v = .non := by simpa only [DV] using q
theorem DV.t {ds : List D} (q : DV K ρ H (.tup ds) v) : ∃ a vs, v = .ref a ∧ QT K ρ H a vs ∧ DVs K ρ H ds vs := by simpa only [DV] using q
theorem DV.l {ds : List D} (q : DV K ρ H (.lst ds) v) : ∃ a vs, v = .ref a ∧ QL ρ H a vs ∧ DVs K ρ H ds vs := by simpa only [DV] using q
theorem DV.f {x : String} (q : DV K ρ H (.fn x) v) : ∃ f, v = .ref f ∧ PySem.W.nsIn K.k mainGlobals (Str.ofString x) = some (some (.ref f)) := by simpa only [DV] using q
theorem DV.o {ds : List D} (q : DV K ρ H (.rol ds) v) : ∃ a vs, v = .ref a ∧ QR K ρ H a vs ∧ DVs K ρ H ds vs := by simpa only [DV] using q
theorem DV.r {n : Nat} (q : DV K ρ H (.ref n) v) : ∃ a, v = .ref a ∧ ρ.r[n]? = some a := by simpa only [DV] using q
theorem DV.int' (i : Int) : DV K ρ H (.int i) (.int i) := by simp only [DV]
theorem DV.bl' (i : Bool) : DV K ρ H (.bl i) (.bl i) := by simp only [DV]
theorem DV.str' (i : String) : DV K ρ H (.str i) (.str (Str.ofString i)) := by simp only [DV]
theorem DV.non' : DV K ρ H .non .non := by simp only [DV]

/-- a sequence's items stand in the heap -/
theorem items_sq {ds : List D} (r : RepH K ρ H h) (q : DV K ρ H d v) (e : items d h = some ds) : ∃ a vs, v = .ref a ∧ (SqL K H a vs ∨ SqT K H a vs) ∧ DVs K ρ H ds vs := by
  cases d with
  | tup xs =>
    simp only [items, Option.some.injEq] at e; subst e
    obtain ⟨a, vs, rfl, z, y⟩ := q.t
    exact ⟨a, vs, rfl, .inr z.sq, y⟩
  | lst xs =>
    simp only [items, Option.some.injEq] at e; subst e
    obtain ⟨a, vs, rfl, z, y⟩ := q.l
    exact ⟨a, vs, rfl, .inl z.sq, y⟩
  | rol xs =>
    simp only [items, Option.some.injEq] at e; subst e
    obtain ⟨a, vs, rfl, z, y⟩ := q.o
    exact ⟨a, vs, rfl, .inl z.sq, y⟩
  | ref n =>
    simp only [items] at e
    obtain ⟨a, rfl, z⟩ := q.r
    obtain ⟨o, e1, ok⟩ := r.at' z
    rw [e1] at e
    cases o with
    | dct kvs => simp at e
    | ids ks => simp at e
    | lst xs =>
      simp only [Option.some.injEq] at e; subst e
      obtain ⟨vs, e2, y⟩ := ok
      exact ⟨a, vs, rfl, .inl (.of e2), y⟩
  | _ => simp [items] at e
theorem litems_sq {ds : List D} (r : RepH K ρ H h) (q : DV K ρ H d v) (e : litems d h = some ds) : ∃ a vs, v = .ref a ∧ SqL K H a vs ∧ DVs K ρ H ds vs := by
  cases d with
  | lst xs =>
    simp only [litems, Option.some.injEq] at e; subst e
    obtain ⟨a, vs, rfl, z, y⟩ := q.l
    exact ⟨a, vs, rfl, z.sq, y⟩
  | rol xs =>
    simp only [litems, Option.some.injEq] at e; subst e
    obtain ⟨a, vs, rfl, z, y⟩ := q.o
    exact ⟨a, vs, rfl, z.sq, y⟩
  | ref n =>
    simp only [litems] at e
    obtain ⟨a, rfl, z⟩ := q.r
    obtain ⟨o, e1, ok⟩ := r.at' z
    rw [e1] at e
    cases o with
    | dct kvs => simp at e
    | ids ks => simp at e
    | lst xs =>
      simp only [Option.some.injEq] at e; subst e
      obtain ⟨vs, e2, y⟩ := ok
      exact ⟨a, vs, rfl, .of e2, y⟩
  | _ => simp [litems] at e
theorem mitems_sq {ds : List D} (r : RepH K ρ H h) (q : DV K ρ H d v) (e : mitems d h = some ds) : ∃ a vs, v = .ref a ∧ H a = some (.lst vs) ∧ DVs K ρ H ds vs := by
  cases d with
  | lst xs =>
    simp only [mitems, Option.some.injEq] at e; subst e
    obtain ⟨a, vs, rfl, z, y⟩ := q.l
    exact ⟨a, vs, rfl, z.1, y⟩
  | ref n =>
    simp only [mitems] at e
    obtain ⟨a, rfl, z⟩ := q.r
    obtain ⟨o, e1, ok⟩ := r.at' z
    rw [e1] at e
    cases o with
    | dct kvs => simp at e
    | ids ks => simp at e
    | lst xs =>
      simp only [Option.some.injEq] at e; subst e
      obtain ⟨vs, e2, y⟩ := ok
      exact ⟨a, vs, rfl, e2, y⟩
  | _ => simp [mitems] at e
theorem flat_V (q : DV K ρ H d v) (f : flat d = true) : flatV v = true := by
  cases d with
  | non => rw [q.n]; rfl
  | bl b => rw [q.b]; rfl
  | int b => rw [q.i]; rfl
  | str b => rw [q.s]; rfl
  | _ => simp [flat] at f
theorem flats_V : ∀ {ds : List D} {vs : List V}, DVs K ρ H ds vs → ds.all flat = true → vs.all flatV = true
  | [], _, q, _ => by simp only [DVs] at q; subst q; rfl
  | d :: ds, _, q, f => by
    simp only [DVs] at q
    obtain ⟨v, r, rfl, q1, q2⟩ := q
    rw [List.all_cons, Bool.and_eq_true] at f
    rw [List.all_cons, flat_V q1 f.1, flats_V q2 f.2]; rfl
end
theorem ofString_inj {a b : String} (e : Str.ofString a = Str.ofString b) : a = b := by
  have h1 : ∀ s : String, Str.ofString s = ⟨(s.toList.map Char.toNat).toArray⟩ := fun s => by
    unfold Str.ofString
    rw [cpsOfBytes_string]
  rw [h1, h1] at e
  injection e with e
  have e2 : a.toList.map Char.toNat = b.toList.map Char.toNat := by simpa using congrArg Array.toList e
  have inj : ∀ l m : List Char, l.map Char.toNat = m.map Char.toNat → l = m := by
    intro l
    induction l with
    | nil => intro m h; cases m with
      | nil => rfl
      | cons _ _ => simp at h
    | cons c l ih => intro m h; cases m with
      | nil => simp at h
      | cons c' m =>
        simp only [List.map_cons, List.cons.injEq] at h
        have : c = c' := by
          have := h.1
          exact Char.toNat_inj.mp this
        rw [this, ih m h.2]
  exact String.toList_inj.mp (inj _ _ e2)
theorem beq_ofString (a b : String) : (Str.ofString a == Str.ofString b) = (a == b) := by
  rw [Bool.eq_iff_iff]
  simp only [beq_iff_eq]
  exact ⟨ofString_inj, fun e => by rw [e]⟩
section
variable {K : Kw} {ρ : Rho} {H : Hp} {h : AH}
theorem beqD_V {a b : D} {x y : V} (qa : DV K ρ H a x) (qb : DV K ρ H b y) (fa : flat a = true) (fb : flat b = true) : eqV x y = beqD a b := by
  cases a with
  | non =>
    rw [qa.n]
    cases b with
    | non => rw [qb.n]; rfl
    | bl b => rw [qb.b]; rfl
    | int b => rw [qb.i]; rfl
    | str b => rw [qb.s]; rfl
    | _ => simp [flat] at fb
  | bl a =>
    rw [qa.b]
    cases b with
    | non => rw [qb.n]; rfl
    | bl b => rw [qb.b]; rfl
    | int b => rw [qb.i]; rfl
    | str b => rw [qb.s]; rfl
    | _ => simp [flat] at fb
  | int a =>
    rw [qa.i]
    cases b with
    | non => rw [qb.n]; rfl
    | bl b => rw [qb.b]; rfl
    | int b => rw [qb.i]; rfl
    | str b => rw [qb.s]; rfl
    | _ => simp [flat] at fb
  | str a =>
    rw [qa.s]
    cases b with
    | non => rw [qb.n]; rfl
    | bl b => rw [qb.b]; rfl
    | int b => rw [qb.i]; rfl
    | str b => rw [qb.s]; exact beq_ofString a b
    | _ => simp [flat] at fb
  | _ => simp [flat] at fa
theorem inV_beqD {a : D} {x : V} (qa : DV K ρ H a x) (fa : flat a = true) : ∀ {ds : List D} {vs : List V}, DVs K ρ H ds vs → ds.all flat = true → inV x vs = ds.any fun y => beqD y a
  | [], _, q, _ => by simp only [DVs] at q; subst q; rfl
  | d :: ds, _, q, f => by
    simp only [DVs] at q
    obtain ⟨v, r, rfl, q1, q2⟩ := q
    rw [List.all_cons, Bool.and_eq_true] at f
    have ih := inV_beqD qa fa q2 f.2
    unfold inV at ih ⊢
    rw [List.any_cons, List.any_cons, beqD_V q1 qa f.1 fa, ih]
end
end PyD

/-! PyE5: keys of dicts: tuples of scalars and such tuples. -/
namespace PyD
open PySem PySem.Spec PyProof.Rows L2
section
variable {X : Cx} {pins : List (Addr × Obj)} {σ : L2.St} {H : Hp} {s : Shared} {ρ : Rho}
mutual
theorem nk_is (I : Inv X pins σ H s) : ∀ (d : D) {v : V} {u : Value}, keyOk d = true → DV X.kw ρ H d v → RelV v u → NestedIs s.heap (nk d) u
  | .non, _, _, _, q, r => by cases q.n; cases r; exact .none
  | .bl b, _, _, _, q, r => by cases q.b; cases r; exact .bool rfl
  | .int i, _, _, _, q, r => by cases q.i; obtain ⟨t, rfl⟩ := r; exact .int i t
  | .str x, _, _, _, q, r => by cases q.s; obtain ⟨t, rfl⟩ := r; exact .text _ t
  | .tup ds, _, _, c, q, r => by
    obtain ⟨a, vs, rfl, z, y⟩ := q.t
    cases r
    obtain ⟨its, rv, ⟨o, ho, hc, n, hd⟩, _⟩ := I.tuple (z.sq : SqT X.K H a vs)
    exact .tup ho hc hd (by simpa using nks_all I ds c y rv)
  | .lst _, _, _, c, _, _ => by simp [keyOk] at c
  | .rol _, _, _, c, _, _ => by simp [keyOk] at c
  | .ref _, _, _, c, _, _ => by simp [keyOk] at c
theorem nks_all (I : Inv X pins σ H s) : ∀ (ds : List D) {vs : List V} {us : List Value}, keyOks ds = true → DVs X.kw ρ H ds vs → Vals vs us → NestedAll s.heap (nks ds) us
  | [], _, _, _, q, r => by simp only [DVs] at q; subst q; cases r; exact .nil
  | d :: ds, _, _, c, q, r => by
    simp only [keyOks, Bool.and_eq_true] at c
    simp only [DVs] at q
    obtain ⟨v, w, rfl, q1, q2⟩ := q
    cases r with
    | cons r1 r2 => exact .cons (nk_is I d c.1 q1 r1) (nks_all I ds c.2 q2 r2)
end
end
mutual
theorem nk_dep : ∀ d : D, keyOk d = true → (nk d).depth = depD d
  | .non, _ => rfl
  | .bl _, _ => rfl
  | .int _, _ => rfl
  | .str _, _ => rfl
  | .tup ds, c => by simp only [nk, NestedKey.depth, depD, nks_dep ds c]
  | .lst _, c => by simp [keyOk] at c
  | .rol _, c => by simp [keyOk] at c
  | .ref _, c => by simp [keyOk] at c
theorem nks_dep : ∀ ds : List D, keyOks ds = true → NestedKey.depthAll (nks ds) = depDs ds
  | [], _ => rfl
  | d :: ds, c => by
    simp only [keyOks, Bool.and_eq_true] at c
    simp only [nks, NestedKey.depthAll, depDs, nk_dep d c.1, nks_dep ds c.2]
end
theorem str_dec (a b : String) : decide (Str.ofString a = Str.ofString b) = (a == b) := by
  have := beq_ofString a b
  by_cases e : a = b
  · subst e; simp
  · have h2 : Str.ofString a ≠ Str.ofString b := fun z => by
      rw [z] at this
      simp [e] at this
    rw [decide_eq_false h2, beq_eq_false_iff_ne.mpr e]
mutual
theorem nk_beq : ∀ (a b : D), keyOk a = true → keyOk b = true → NestedKey.beq (nk a) (nk b) = eqD a b
  | .non, b, _, hb => by cases b <;> first | rfl | simp [keyOk] at hb
  | .bl x, b, _, hb => by
    cases b with
    | bl y => cases x <;> cases y <;> rfl
    | int y => simp only [nk, NestedKey.beq, eqD, beqD]; rfl
    | lst _ => simp [keyOk] at hb
    | rol _ => simp [keyOk] at hb
    | ref _ => simp [keyOk] at hb
    | _ => rfl
  | .int x, b, _, hb => by
    cases b with
    | bl y => simp only [nk, NestedKey.beq, eqD, beqD]; rfl
    | int y => simp only [nk, NestedKey.beq, eqD, beqD]; rfl
    | lst _ => simp [keyOk] at hb
    | rol _ => simp [keyOk] at hb
    | ref _ => simp [keyOk] at hb
    | _ => rfl
  | .str x, b, _, hb => by
    cases b with
    | str y => simp only [nk, NestedKey.beq, eqD, beqD]; exact str_dec x y
    | lst _ => simp [keyOk] at hb
    | rol _ => simp [keyOk] at hb
    | ref _ => simp [keyOk] at hb
    | _ => rfl
  | .tup xs, b, ha, hb => by
    cases b with
    | tup ys => simp only [nk, NestedKey.beq, eqD]; exact nks_beq xs ys ha hb
    | lst _ => simp [keyOk] at hb
    | rol _ => simp [keyOk] at hb
    | ref _ => simp [keyOk] at hb
    | _ => rfl
  | .lst _, _, ha, _ => by simp [keyOk] at ha
  | .rol _, _, ha, _ => by simp [keyOk] at ha
  | .ref _, _, ha, _ => by simp [keyOk] at ha
theorem nks_beq : ∀ (a b : List D), keyOks a = true → keyOks b = true → NestedKey.beqAll (nks a) (nks b) = eqDs a b
  | [], [], _, _ => rfl
  | [], _ :: _, _, _ => rfl
  | _ :: _, [], _, _ => rfl
  | a :: as, b :: bs, ha, hb => by
    simp only [keyOks, Bool.and_eq_true] at ha hb
    simp only [nks, NestedKey.beqAll, eqDs, nk_beq a b ha.1 hb.1, nks_beq as bs ha.2 hb.2]
end
theorem nk_eq {a b : D} (ha : keyOk a = true) (hb : keyOk b = true) : decide (nk a = nk b) = eqD a b := by
  rw [NestedKey.decide_eq, nk_beq a b ha hb]
end PyD

/-! PyD1c: calls: what is closed moves between worlds; what a def gives back is frozen. -/
namespace PyD
open PySem PySem.Spec PyProof.Rows L2
section
variable {K : Kw} {ρ ρ0 : Rho} {H : Hp}
theorem QT.sub (hs : ∀ a, a ∈ ρ0 → a ∈ ρ) {a : Addr} {vs : List V} (q : QT K ρ H a vs) : QT K ρ0 H a vs := q.elim (fun q => .inl ⟨q.1, fun m => q.2 (hs a m)⟩) .inr
theorem QL.sub (hs : ∀ a, a ∈ ρ0 → a ∈ ρ) {a : Addr} {vs : List V} (q : QL ρ H a vs) : QL ρ0 H a vs := ⟨q.1, fun m => q.2 (hs a m)⟩
theorem QR.sub (hs : ∀ a, a ∈ ρ0 → a ∈ ρ) {a : Addr} {vs : List V} (q : QR K ρ H a vs) : QR K ρ0 H a vs := q.elim (fun q => .inl ⟨q.1, fun m => q.2 (hs a m)⟩) .inr
mutual
theorem DV.moved (hs : ∀ a, a ∈ ρ0 → a ∈ ρ) : ∀ (d : D) {v : V}, closed d = true → DV K ρ H d v → DV K ρ0 H d v
  | .non, _, _, h => h
  | .bl _, _, _, h => h
  | .int _, _, _, h => h
  | .str _, _, _, h => h
  | .tup ds, _, c, h => by
    simp only [DV] at h ⊢
    obtain ⟨a, vs, e1, q, r⟩ := h
    exact ⟨a, vs, e1, q.sub hs, DVs.moved hs ds c r⟩
  | .lst ds, _, c, h => by
    simp only [DV] at h ⊢
    obtain ⟨a, vs, e1, q, r⟩ := h
    exact ⟨a, vs, e1, q.sub hs, DVs.moved hs ds c r⟩
  | .rol ds, _, c, h => by
    simp only [DV] at h ⊢
    obtain ⟨a, vs, e1, q, r⟩ := h
    exact ⟨a, vs, e1, q.sub hs, DVs.moved hs ds c r⟩
  | .ref k, _, c, _ => by simp [closed] at c
theorem DVs.moved (hs : ∀ a, a ∈ ρ0 → a ∈ ρ) : ∀ (ds : List D) {vs : List V}, closeds ds = true → DVs K ρ H ds vs → DVs K ρ0 H ds vs
  | [], _, _, h => h
  | d :: ds, _, c, h => by
    simp only [closeds, Bool.and_eq_true] at c
    simp only [DVs] at h ⊢
    obtain ⟨v, r, e1, q, z⟩ := h
    exact ⟨v, r, e1, DV.moved hs d c.1 q, DVs.moved hs ds c.2 z⟩
end
theorem DV.movedA (hs : ∀ a, a ∈ ρ0 → a ∈ ρ) (d : D) {v : V} (c : argOk d = true) (h : DV K ρ H d v) : DV K ρ0 H d v := by
  cases d with
  | fn x => simp only [DV] at h ⊢; exact h
  | _ => exact DV.moved hs _ c h
theorem DVs.movedA (hs : ∀ a, a ∈ ρ0 → a ∈ ρ) : ∀ (ds : List D) {vs : List V}, argsOk ds = true → DVs K ρ H ds vs → DVs K ρ0 H ds vs
  | [], _, _, h => by simp only [DVs] at h ⊢; exact h
  | d :: ds, _, c, h => by
    simp only [argsOk, List.all_cons, Bool.and_eq_true] at c
    simp only [DVs] at h ⊢
    obtain ⟨v, r, e1, q, z⟩ := h
    exact ⟨v, r, e1, DV.movedA hs d c.1 q, DVs.movedA hs ds c.2 z⟩
mutual
theorem DV.mapR {g : Nat → Option D} (hs : ∀ a, a ∈ ρ0 → a ∈ ρ) (hg : ∀ k d' a, g k = some d' → ρ.r[k]? = some a → DV K ρ0 H d' (.ref a)) : ∀ (d : D) {d' : D} {v : V}, PyD.mapR g d = some d' → DV K ρ H d v → DV K ρ0 H d' v
  | .non, _, _, c, h => by simp only [PyD.mapR, Option.some.injEq] at c; subst c; exact h
  | .bl _, _, _, c, h => by simp only [PyD.mapR, Option.some.injEq] at c; subst c; exact h
  | .int _, _, _, c, h => by simp only [PyD.mapR, Option.some.injEq] at c; subst c; exact h
  | .str _, _, _, c, h => by simp only [PyD.mapR, Option.some.injEq] at c; subst c; exact h
  | .tup ds, _, _, c, h => by
    simp only [PyD.mapR, Option.map_eq_some_iff] at c
    obtain ⟨es, c, rfl⟩ := c
    simp only [DV] at h ⊢
    obtain ⟨a, vs, e1, q, r⟩ := h
    exact ⟨a, vs, e1, q.sub hs, DVs.mapR hs hg ds c r⟩
  | .lst ds, _, _, c, h => by
    simp only [PyD.mapR, Option.map_eq_some_iff] at c
    obtain ⟨es, c, rfl⟩ := c
    simp only [DV] at h ⊢
    obtain ⟨a, vs, e1, q, r⟩ := h
    exact ⟨a, vs, e1, q.sub hs, DVs.mapR hs hg ds c r⟩
  | .rol ds, _, _, c, h => by
    simp only [PyD.mapR, Option.map_eq_some_iff] at c
    obtain ⟨es, c, rfl⟩ := c
    simp only [DV] at h ⊢
    obtain ⟨a, vs, e1, q, r⟩ := h
    exact ⟨a, vs, e1, q.sub hs, DVs.mapR hs hg ds c r⟩
  | .ref k, _, _, c, h => by
    simp only [PyD.mapR] at c
    simp only [DV] at h
    obtain ⟨a, rfl, e⟩ := h
    exact hg k _ a c e
theorem DVs.mapR {g : Nat → Option D} (hs : ∀ a, a ∈ ρ0 → a ∈ ρ) (hg : ∀ k d' a, g k = some d' → ρ.r[k]? = some a → DV K ρ0 H d' (.ref a)) : ∀ (ds : List D) {ds' : List D} {vs : List V}, mapRs g ds = some ds' → DVs K ρ H ds vs → DVs K ρ0 H ds' vs
  | [], _, _, c, h => by simp only [mapRs, Option.some.injEq] at c; subst c; exact h
  | d :: ds, _, _, c, h => by
    simp only [mapRs, Option.bind_eq_some_iff, Option.map_eq_some_iff] at c
    obtain ⟨x, c1, xs, c2, rfl⟩ := c
    simp only [DVs] at h ⊢
    obtain ⟨v, r, e1, q, z⟩ := h
    exact ⟨v, r, e1, DV.mapR hs hg d c1 q, DVs.mapR hs hg ds c2 z⟩
end
theorem fzR_ok {h : AH} {ok : Nat → Bool} (r : RepH K ρ H h) (hs : ∀ a, a ∈ ρ0 → a ∈ ρ) (hk : ∀ k a, ok k = true → ρ.r[k]? = some a → a ∉ ρ0) : ∀ (n k : Nat) (d' : D) (a : Addr), fzR h ok n k = some d' → ρ.r[k]? = some a → DV K ρ0 H d' (.ref a)
  | 0, _, _, _, c, _ => by simp [fzR] at c
  | n + 1, k, d', a, c, e => by
    simp only [fzR] at c
    split at c
    case isFalse => cases c
    rename_i hok
    obtain ⟨o, e1, q⟩ := r.at' e
    cases o with
    | dct kvs => rw [e1] at c; simp at c
    | ids ks => rw [e1] at c; simp at c
    | lst ds =>
      rw [e1] at c
      simp only [Option.map_eq_some_iff] at c
      obtain ⟨es, c, rfl⟩ := c
      obtain ⟨vs, e2, q⟩ := q
      simp only [DV]
      exact ⟨a, vs, rfl, ⟨e2, hk k a hok e⟩, DVs.mapR hs (fun k d' a => fzR_ok r hs hk n k d' a) ds c q⟩
theorem fin_ok {m : Bool} {h h1 h2 : AH} {d d2 : D} {Q : VK} (r0 : RepH K ρ H h) (e : fin m h.length d h1 = some (d2, h2)) (o : Out K ρ H d2 h2 Q) : Out K ρ H d h1 Q := by
  intro v H' ρ' ex r1 q
  obtain ⟨t, u, rfl, ht, hu⟩ := ex.more
  have hrl : ρ.r.length = h.length := r0.len
  have notr : ∀ a ∈ ρ.r, a ∉ t := fun a m1 m2 => r0.mem (.inl m1) (ht a m2)
  unfold fin at e
  split at e
  case isFalse => cases e
  rename_i hc
  have hcl : ∀ i ds, i < h.length → h1[i]? = some (.lst ds) → closeds ds = true := fun i ds hi hx => by
    have hm : AO.lst ds ∈ h1.take h.length := List.mem_of_getElem? (i := i) (by rw [List.getElem?_take, if_pos hi]; exact hx)
    exact List.all_eq_true.mp hc _ hm
  have hle : h.length ≤ h1.length := by
    have := r1.len
    simp at this
    omega
  -- the world behind: x is what of the new lists stays
  have world : ∀ (x : List Addr), (∀ a ∈ x, a ∈ t) → x.Nodup → ∀ g : List AO, x.length = g.length → (∀ (i : Nat) (a : Addr) (o : AO), x[i]? = some a → g[i]? = some o → AOk K ⟨ρ.r ++ x, u ++ ρ.w⟩ H' a o) →
      (∀ a, a ∈ (⟨ρ.r ++ x, u ++ ρ.w⟩ : Rho) → a ∈ (⟨ρ.r ++ t, u ++ ρ.w⟩ : Rho)) ∧ Ext ρ H ⟨ρ.r ++ x, u ++ ρ.w⟩ H' ∧ RepH K ⟨ρ.r ++ x, u ++ ρ.w⟩ H' (h1.take h.length ++ g) := by
    intro x hx xn g hg ho
    have hs : ∀ a, a ∈ (⟨ρ.r ++ x, u ++ ρ.w⟩ : Rho) → a ∈ (⟨ρ.r ++ t, u ++ ρ.w⟩ : Rho) := fun a m => by
      rcases m with m | m
      · rcases List.mem_append.mp m with m | m
        · exact .inl (List.mem_append_left _ m)
        · exact .inl (List.mem_append_right _ (hx a m))
      · exact .inr m
    refine ⟨hs, ⟨⟨x, u, rfl, fun a m => ht a (hx a m), hu⟩, ex.keep, ex.there⟩, ⟨?_, ?_, ?_, ?_⟩⟩
    · simp [hrl, hg]; omega
    · show (ρ.r ++ x).Nodup
      rw [List.nodup_append]
      exact ⟨r0.nd, xn, fun a m1 b m2 z => notr a m1 (hx a (z ▸ m2))⟩
    · intro a m
      refine ⟨fun z => (r1.hid a m).1 ?_, (r1.hid a m).2⟩
      rcases List.mem_append.mp z with z | z
      · exact List.mem_append_left _ z
      · exact List.mem_append_right _ (hx a z)
    · intro i a o e1 e2
      have e1 : (ρ.r ++ x)[i]? = some a := e1
      by_cases hi : i < h.length
      · rw [List.getElem?_append_left (by omega)] at e1
        rw [List.getElem?_append_left (by simp; omega), List.getElem?_take, if_pos hi] at e2
        have q1 := r1.obj i a o (by show (ρ.r ++ t)[i]? = _; rw [List.getElem?_append_left (by omega)]; exact e1) e2
        cases o with
        | dct kvs => exact absurd (List.all_eq_true.mp hc _ (List.mem_of_getElem? (i := i) (by rw [List.getElem?_take, if_pos hi]; exact e2))) (by simp [closedO])
        | ids ks => exact absurd (List.all_eq_true.mp hc _ (List.mem_of_getElem? (i := i) (by rw [List.getElem?_take, if_pos hi]; exact e2))) (by simp [closedO])
        | lst ds =>
          obtain ⟨vs, e3, y⟩ := q1
          exact ⟨vs, e3, DVs.moved hs ds (hcl i ds hi e2) y⟩
      · rw [List.getElem?_append_right (by omega)] at e1
        rw [List.getElem?_append_right (by simp; omega)] at e2
        have : (h1.take h.length).length = ρ.r.length := by simp; omega
        rw [this] at e2
        exact ho _ a o e1 e2
  split at e
  · cases d with
    | ref k =>
      simp only at e
      split at e
      case isFalse => cases e
      rename_i hk
      simp only [DV] at q
      obtain ⟨a, rfl, ea⟩ := q
      obtain ⟨ob, eb, qb⟩ := r1.at' ea
      cases ob with
      | dct kvs => rw [eb] at e; simp at e
      | ids ks => rw [eb] at e; simp at e
      | lst ds =>
        rw [eb] at e
        simp only [Option.map_eq_some_iff, Prod.mk.injEq] at e
        obtain ⟨es, c, rfl, rfl⟩ := e
        have ea : (ρ.r ++ t)[k]? = some a := ea
        have hat : a ∈ t := by
          rw [List.getElem?_append_right (by omega)] at ea
          exact List.mem_of_getElem? ea
        have hs : ∀ b, b ∈ (⟨ρ.r ++ [a], u ++ ρ.w⟩ : Rho) → b ∈ (⟨ρ.r ++ t, u ++ ρ.w⟩ : Rho) := fun b m => by
          rcases m with m | m
          · rcases List.mem_append.mp m with m | m
            · exact .inl (List.mem_append_left _ m)
            · cases List.mem_singleton.mp m; exact .inl (List.mem_append_right _ hat)
          · exact .inr m
        obtain ⟨vs, e3, y⟩ := qb
        have y' : DVs K ⟨ρ.r ++ [a], u ++ ρ.w⟩ H' es vs := DVs.mapR hs (fzR_ok r1 hs (fun j b hj eb' => by
          simp only [Bool.and_eq_true, decide_eq_true_eq] at hj
          have eb' : (ρ.r ++ t)[j]? = some b := eb'
          have hbt : b ∈ t := by
            rw [List.getElem?_append_right (by omega)] at eb'
            exact List.mem_of_getElem? eb'
          have nba : b ≠ a := fun z => by
            subst z
            apply hj.2
            obtain ⟨h1', e1'⟩ := List.getElem?_eq_some_iff.mp eb'
            obtain ⟨h2', e2'⟩ := List.getElem?_eq_some_iff.mp ea
            exact (List.getElem_inj r1.nd).mp (e1'.trans e2'.symm)
          intro m
          rcases m with m | m
          · rcases List.mem_append.mp m with m | m
            · exact notr b m hbt
            · exact nba (List.mem_singleton.mp m)
          · exact (r1.hid b m).1 (List.mem_append_right _ hbt)) 6) ds c y
        obtain ⟨_, ex', r'⟩ := world [a] (fun b m => by cases List.mem_singleton.mp m; exact hat) (by simp) [.lst es] rfl (fun i b o e1 e2 => by
          cases i with
          | zero => simp at e1 e2; subst e1; subst e2; exact ⟨vs, e3, y'⟩
          | succ i => simp at e1)
        refine o _ H' _ ex' r' ?_
        simp only [DV]
        exact ⟨a, rfl, by simp [hrl]⟩
    | _ => simp at e
  · simp only [Option.map_eq_some_iff, Prod.mk.injEq] at e
    obtain ⟨d3, c, rfl, rfl⟩ := e
    obtain ⟨hs, ex', r'⟩ := world [] (fun b m => by cases m) (by simp) [] rfl (fun i b o e1 e2 => by simp at e1)
    simp only [List.append_nil] at hs ex' r'
    refine o _ H' _ ex' r' (DV.mapR hs (fzR_ok r1 hs (fun j b hj eb' => ?_) 6) d c q)
    simp only [decide_eq_true_eq] at hj
    have eb' : (ρ.r ++ t)[j]? = some b := eb'
    have hbt : b ∈ t := by
      rw [List.getElem?_append_right (by omega)] at eb'
      exact List.mem_of_getElem? eb'
    intro m
    rcases m with m | m
    · exact notr b m hbt
    · exact (r1.hid b m).1 (List.mem_append_right _ hbt)
theorem callC_ok {φ : Fun} {h h1 : AH} {ds : List D} {vs : List V} {d : D} {Q : VK} (r0 : RepH K ρ H h) (q0 : DVs K ρ H ds vs) (e : callC φ ds h = some (d, h1)) (o : Out K ρ H d h1 Q) :
    ∃ ρ h ds d h', RepH K ρ H h ∧ DVs K ρ H ds vs ∧ φ ds h = some (d, h') ∧ Out K ρ H d h' Q := by
  have hrl : ρ.r.length = h.length := r0.len
  have closedCase : ∀ ds, DVs K ρ H ds vs → (if argsOk ds then (φ ds []).bind fun (d, h') => (match h' with
      | [] => if closed d then some (d, h) else none
      | [.lst es] => (match d with
          | .ref 0 => if closeds es then some (.ref h.length, h ++ [.lst es]) else none
          | _ => none)
      | _ => none)
    else none) = some (d, h1) → ∃ ρ h ds d h', RepH K ρ H h ∧ DVs K ρ H ds vs ∧ φ ds h = some (d, h') ∧ Out K ρ H d h' Q := by
    intro ds q0 e
    split at e
    case isFalse => cases e
    rename_i hc
    cases ef : φ ds [] with
    | none => simp [ef] at e
    | some p =>
      obtain ⟨d0, h0⟩ := p
      simp only [ef, Option.bind_some] at e
      have hsub : ∀ a, a ∈ (⟨[], ρ.r ++ ρ.w⟩ : Rho) → a ∈ ρ := fun a m => by
        rcases m with m | m
        · cases m
        · exact (List.mem_append.mp m).elim .inl .inr
      refine ⟨⟨[], ρ.r ++ ρ.w⟩, [], ds, d0, h0, ⟨rfl, by simp, fun a m => ⟨by simp, r0.mem ((List.mem_append.mp m).elim .inl .inr)⟩, fun n a o z => by simp at z⟩, DVs.movedA hsub ds hc q0, ef, ?_⟩
      intro v H' ρ' ex r1 q
      obtain ⟨t, u, rfl, ht, hu⟩ := ex.more
      simp only [List.nil_append] at ex r1 q
      have hidr : ∀ a ∈ u ++ ρ.w, a ∉ ρ.r ∧ H' a ≠ none := fun a m => by
        rcases List.mem_append.mp m with m | m
        · exact ⟨fun z => r0.mem (.inl z) (hu a m), (r1.hid a (List.mem_append_left _ m)).2⟩
        · exact ⟨(r0.hid a m).1, (r1.hid a (List.mem_append_right _ (List.mem_append_right _ m))).2⟩
      have same : ∀ a ∈ ρ.r, H' a = H a := fun a m => by
        cases z : H a with
        | none => exact absurd z (r0.mem (.inl m))
        | some w => exact ex.keep a w z (by simp)
      have mk : ∀ (x : List Addr) (g : List AO), (∀ a ∈ x, H a = none) → x.Nodup → x.length = g.length → (∀ a ∈ x, a ∈ t) → (∀ (i : Nat) (a : Addr) (o : AO), x[i]? = some a → g[i]? = some o → AOk K ⟨ρ.r ++ x, u ++ ρ.w⟩ H' a o) →
          Ext ρ H ⟨ρ.r ++ x, u ++ ρ.w⟩ H' ∧ RepH K ⟨ρ.r ++ x, u ++ ρ.w⟩ H' (h ++ g) := by
        intro x g hx xn xl xt ho
        have e' : Ext ρ H ⟨ρ.r ++ x, u ++ ρ.w⟩ H' := ⟨⟨x, u, rfl, hx, hu⟩, fun a w z _ => ex.keep a w z (by simp), ex.there⟩
        refine ⟨e', ⟨by simp [hrl, xl], ?_, ?_, ?_⟩⟩
        · show (ρ.r ++ x).Nodup
          rw [List.nodup_append]
          exact ⟨r0.nd, xn, fun a m1 b m2 z => r0.mem (.inl m1) (hx a (z ▸ m2))⟩
        · intro a m
          refine ⟨fun z => ?_, (hidr a m).2⟩
          rcases List.mem_append.mp z with z | z
          · exact (hidr a m).1 z
          · refine (r1.hid a ?_).1 (xt a z)
            rcases List.mem_append.mp m with m | m
            · exact List.mem_append_left _ m
            · exact List.mem_append_right _ (List.mem_append_right _ m)
        · intro i a o e1 e2
          have e1 : (ρ.r ++ x)[i]? = some a := e1
          by_cases hi : i < h.length
          · rw [List.getElem?_append_left (by omega)] at e1
            rw [List.getElem?_append_left hi] at e2
            exact (r0.obj i a o e1 e2).ext e' (same a (List.mem_of_getElem? e1))
          · rw [List.getElem?_append_right (by omega)] at e1
            rw [List.getElem?_append_right (by omega), ← hrl] at e2
            exact ho _ a o e1 e2
      have sub2 : ∀ x, (∀ a ∈ x, a ∈ t) → ∀ a, a ∈ (⟨ρ.r ++ x, u ++ ρ.w⟩ : Rho) → a ∈ (⟨t, u ++ (ρ.r ++ ρ.w)⟩ : Rho) := fun x hx a m => by
        rcases m with m | m
        · rcases List.mem_append.mp m with m | m
          · exact .inr (List.mem_append_right _ (List.mem_append_left _ m))
          · exact .inl (hx a m)
        · rcases List.mem_append.mp m with m | m
          · exact .inr (List.mem_append_left _ m)
          · exact .inr (List.mem_append_right _ (List.mem_append_right _ m))
      match h0, e, r1, ef with
      | [], e, r1, ef =>
        simp only at e
        split at e
        case isFalse => cases e
        rename_i hcd
        simp only [Option.some.injEq, Prod.mk.injEq] at e
        obtain ⟨rfl, rfl⟩ := e
        obtain ⟨e', r'⟩ := mk [] [] (fun a m => by cases m) (by simp) rfl (fun a m => by cases m) (fun i a o z => by simp at z)
        simp only [List.append_nil] at e' r'
        exact o v H' _ e' r' (DV.moved (fun a m => sub2 [] (fun a m => by cases m) a (by simpa using m)) _ hcd q)
      | [.lst es], e, r1, ef =>
        simp only at e
        split at e
        case h_2 => cases e
        split at e
        case isFalse => cases e
        rename_i hcd
        simp only [Option.some.injEq, Prod.mk.injEq] at e
        obtain ⟨rfl, rfl⟩ := e
        simp only [DV] at q
        obtain ⟨a, rfl, ea⟩ := q
        have ta : t = [a] := by
          have := r1.len
          match t, this, ea with
          | [b], _, ea => simp at ea; rw [ea]
        subst ta
        obtain ⟨vs', e3, y⟩ := r1.obj 0 a _ rfl rfl
        obtain ⟨e', r'⟩ := mk [a] [.lst es] ht (by simp) rfl (fun a m => m) (fun i b ob e1 e2 => by
          cases i with
          | zero => simp at e1 e2; subst e1; subst e2; exact ⟨vs', e3, DVs.moved (sub2 [a] fun a m => m) es hcd y⟩
          | succ i => simp at e1)
        refine o _ H' _ e' r' ?_
        simp only [DV]
        exact ⟨a, rfl, by simp [hrl]⟩
      | .lst _ :: _ :: _, e, r1, ef => simp at e
  unfold callC at e
  split at e
  · rename_i r rest
    split at e
    case isFalse => cases e
    rename_i hcr
    split at e
    case h_2 => cases e
    rename_i es eh
    split at e
    case isFalse => cases e
    rename_i hce
    cases ef : φ (.ref 0 :: rest) [.lst es] with
    | none => simp [ef] at e
    | some p =>
      obtain ⟨d0, h0⟩ := p
      simp only [ef, Option.bind_some] at e
      split at e
      case h_2 => cases e
      rename_i es'
      split at e
      case isFalse => cases e
      rename_i hcd
      simp only [Bool.and_eq_true] at hcd
      simp only [Option.some.injEq, Prod.mk.injEq] at e
      obtain ⟨rfl, rfl⟩ := e
      simp only [DVs, DV] at q0
      obtain ⟨_, vr, rfl, ⟨a, rfl, ea⟩, q0⟩ := q0
      have am : a ∈ ρ.r := List.mem_of_getElem? ea
      have hw : ∀ b ∈ ρ.r.filter (fun b => decide (b ≠ a)) ++ ρ.w, b ≠ a ∧ b ∈ ρ := fun b m => by
        rcases List.mem_append.mp m with m | m
        · have := List.mem_filter.mp m
          exact ⟨by simpa using this.2, .inl this.1⟩
        · exact ⟨fun z => (r0.hid b m).1 (z ▸ am), .inr m⟩
      have hsub : ∀ b, b ∈ (⟨[a], ρ.r.filter (fun b => decide (b ≠ a)) ++ ρ.w⟩ : Rho) → b ∈ ρ := fun b m => by
        rcases m with m | m
        · cases List.mem_singleton.mp m; exact .inl am
        · exact (hw b m).2
      obtain ⟨ov, eo, yo⟩ := r0.obj r a _ ea eh
      refine ⟨⟨[a], ρ.r.filter (fun b => decide (b ≠ a)) ++ ρ.w⟩, [.lst es], .ref 0 :: rest, d0, [.lst es'], ⟨rfl, by simp, fun b m => ⟨fun z => (hw b m).1 (List.mem_singleton.mp z), r0.mem (hw b m).2⟩, fun n b ob e1 e2 => ?_⟩, ?_, ef, ?_⟩
      · cases n with
        | zero => simp at e1 e2; subst e1; subst e2; exact ⟨ov, eo, DVs.moved hsub es hce yo⟩
        | succ n => simp at e1
      · exact .cons (by simp only [DV]; exact ⟨a, rfl, rfl⟩) (DVs.moved hsub rest hcr q0)
      · intro v H' ρ' ex r1 q
        obtain ⟨t, u, rfl, ht, hu⟩ := ex.more
        have t0 : t = [] := by
          have := r1.len
          simp at this
          exact this
        subst t0
        simp only [List.append_nil] at ex r1 q
        have hsub2 : ∀ b, b ∈ (⟨ρ.r, u ++ ρ.w⟩ : Rho) → b ∈ (⟨[a], u ++ (ρ.r.filter (fun b => decide (b ≠ a)) ++ ρ.w)⟩ : Rho) := fun b m => by
          rcases m with m | m
          · by_cases z : b = a
            · exact .inl (by rw [z]; simp)
            · exact .inr (List.mem_append_right _ (List.mem_append_left _ (List.mem_filter.mpr ⟨m, by simpa using z⟩)))
          · rcases List.mem_append.mp m with m | m
            · exact .inr (List.mem_append_left _ m)
            · exact .inr (List.mem_append_right _ (List.mem_append_right _ m))
        have e' : Ext ρ H ⟨ρ.r, u ++ ρ.w⟩ H' := ⟨⟨[], u, by simp, ⟨fun b m => (by cases m), hu⟩⟩, fun b w z nb => ex.keep b w z (fun m => nb (by cases List.mem_singleton.mp m; exact am)), ex.there⟩
        refine o v H' _ e' ⟨by simp [hrl], r0.nd, fun b m => ?_, fun i b ob e1 e2 => ?_⟩ (DV.moved hsub2 _ hcd.1 q)
        · rcases List.mem_append.mp m with m | m
          · exact ⟨fun z => r0.mem (.inl z) (hu b m), (r1.hid b (List.mem_append_left _ m)).2⟩
          · exact ⟨(r0.hid b m).1, (r1.hid b (List.mem_append_right _ (List.mem_append_right _ m))).2⟩
        · have e1 : ρ.r[i]? = some b := e1
          by_cases hi : i = r
          · subst hi
            rw [ea] at e1; cases e1
            rw [List.getElem?_set_self (List.getElem?_eq_some_iff.mp eh).1] at e2
            cases e2
            obtain ⟨vs', e3, y⟩ := r1.obj 0 a _ rfl rfl
            exact ⟨vs', e3, DVs.moved hsub2 es' hcd.2 y⟩
          · rw [List.getElem?_set_ne (Ne.symm hi)] at e2
            have nb : b ≠ a := fun z => hi (by
              subst z
              obtain ⟨h1', e1'⟩ := List.getElem?_eq_some_iff.mp e1
              obtain ⟨h2', e2'⟩ := List.getElem?_eq_some_iff.mp ea
              exact (List.getElem_inj r0.nd).mp (e1'.trans e2'.symm))
            refine (r0.obj i b ob e1 e2).ext e' ?_
            cases z : H b with
            | none => exact absurd z (r0.mem (.inl (List.mem_of_getElem? e1)))
            | some w => exact ex.keep b w z (by simpa using nb)
  · exact closedCase _ q0 e
end
end PyD

/-! PyE2: tuple * int, at any small number. -/
namespace PyD
open PySem PySem.Spec PyProof.Rows L2
theorem tuple_mulS (l : Addr) (items : Array Value) (n : Nat) (dd : Option Addr) (sl : Array (Option Value)) (x : Int) (u : Tok) (c0 : (decide (x < -(2 ^ 63)) || decide (x ≥ 2 ^ 63)) = false) (c1 : (items.isEmpty || x == 1) = true) :
    Meets (Builtin.«tuple.__mul__» ⟨[.ref l, .int x u], []⟩) (fun _ R s => s.heap.get? l = some { cls := .type "tuple", dict := dd, data := .seq items n, slots := sl } ∧ R (.ok (.ret (Value.ref l))) s) :=
  .of_wp fun prog w A R s h => by
    obtain ⟨hp, g, d, tk, os⟩ := s
    obtain ⟨hl, h⟩ := h
    have f1 := AutoSeq1.idx_int
    wp_walk using wpAny_loadPart' hl
    repeat (first
      | (refine wpAny_ite_false (decide_eq_false (by rw [c0]; exact Bool.false_ne_true)) ?_; wp_walk using wpAny_loadPart' hl)
      | (refine wpAny_ite_true (decide_eq_true (by rw [c1])) ?_; wp_walk using wpAny_loadPart' hl))
    exact ⟨_, rfl, h⟩
theorem tuple_mulN (l : Addr) (items : Array Value) (n : Nat) (dd : Option Addr) (sl : Array (Option Value)) (x : Int) (u : Tok) (c0 : (decide (x < -(2 ^ 63)) || decide (x ≥ 2 ^ 63)) = false) (c1 : (items.isEmpty || x == 1) = false) (c2 : (decide (x ≤ 0) || items.isEmpty) = true) :
    Meets (Builtin.«tuple.__mul__» ⟨[.ref l, .int x u], []⟩) (fun _ R s => s.heap.get? l = some { cls := .type "tuple", dict := dd, data := .seq items n, slots := sl } ∧
      R (.ok (.ret (Value.ref s.heap.objs.size))) { s with heap := s.heap.push { cls := Value.type "tuple", data := Data.seq #[] }, toks := s.toks }) :=
  .of_wp fun prog w A R s h => by
    obtain ⟨hp, g, d, tk, os⟩ := s
    obtain ⟨hl, h⟩ := h
    have f1 := AutoSeq1.idx_int
    wp_walk using wpAny_loadPart' hl
    repeat (first
      | (refine wpAny_ite_false (decide_eq_false (by rw [c0]; exact Bool.false_ne_true)) ?_; wp_walk using wpAny_loadPart' hl)
      | (refine wpAny_ite_false (decide_eq_false (by rw [c1]; exact Bool.false_ne_true)) ?_; wp_walk using wpAny_loadPart' hl)
      | (refine wpAny_ite_true (decide_eq_true (by rw [c2])) ?_; wp_walk using wpAny_loadPart' hl))
    exact ⟨_, rfl, h⟩
def rRepA (K : PySem.W.Frag) : R2 := fun x y H Q => ∃ l k xs, x = .ref l ∧ y = .int k ∧ SqT K H l xs ∧ -1000 ≤ k ∧ k ≤ 1000 ∧ xs.length ≤ 1000 ∧ ((xs = [] ∨ k = 1) → Q (.ref l) H) ∧ (¬ (xs = [] ∨ k = 1) → ∀ p, H p = none → Q (.ref p) (upd H p (.tup (List.replicate k.toNat xs).flatten)))
theorem op_repA {X : Cx} : OpR X (binaryOp .Mult) (rRepA X.K) := by
  intro pins s σ H x y v u Q I rx ry h
  obtain ⟨l, k, xs, rfl, rfl, hT, h0, h2, hz, q1, q2⟩ := h
  by_cases hbig : xs ≠ [] ∧ 2 ≤ k
  · exact op_repT pins s σ H _ _ v u Q I rx ry ⟨l, k, xs, rfl, rfl, hT, hbig.1, hbig.2, h2, hz, q2 (fun z => z.elim hbig.1 (fun e => by omega))⟩
  cases rx
  obtain ⟨t, rfl⟩ := ry
  obtain ⟨its, r, ⟨⟨cls, dd, data, sl⟩, ho, hc, n, hd⟩, hs⟩ := I.tuple hT
  simp only at hc hd
  subst hc hd
  have hle : its.length = xs.length := r.length.symm
  have c0 : (decide (k < -(2 ^ 63)) || decide (k ≥ 2 ^ 63)) = false := by
    rw [decide_eq_false (by omega), decide_eq_false (by omega)] <;> rfl
  have hxi : xs = [] ↔ its = [] := ⟨fun e => List.eq_nil_of_length_eq_zero (by rw [hle, e]; rfl), fun e => List.eq_nil_of_length_eq_zero (by rw [← hle, e]; rfl)⟩
  have hie : its.toArray.isEmpty = its.isEmpty := by cases its <;> rfl
  by_cases hsame : xs = [] ∨ k = 1
  · have c1 : (its.toArray.isEmpty || k == 1) = true := by
      rw [hie]
      rcases hsame with e | e
      · rw [hxi.mp e]; rfl
      · rw [e]; simp
    refine wpAny_binaryOp_repeat_ref (T := "tuple") (U := "int") (by decide) ⟨_, ho, rfl⟩ (fun s' => typeIs_int s' k t) noFill_tuple_mul F.fills_int_mul F.slot_int_rmul repeat_tuple F.slot_int_index.lookup
      (call_meets F.slot_int_rmul (typeIs_int s k t) F.entry_int_rmul (F.args_int_rmul_2 _ _) (int_rmul_tuple k t l its.toArray n dd sl)
        ⟨ho, rfl, ⟨_, ho, rfl⟩, call_meets F.slot_tuple_mul ⟨_, ho, rfl⟩ F.entry_tuple_mul (F.args_tuple_mul_2 _ _) (tuple_mulS l its.toArray n dd sl k t c0 c1) ⟨ho, ?_⟩⟩)
    exact ⟨.ref l, H, I, rfl, q1 hsame⟩
  · have hk0 : k ≤ 0 := by
      by_cases z : k ≤ 0
      · exact z
      · exact absurd ⟨fun e => hsame (.inl e), by have : k ≠ 1 := fun e => hsame (.inr e); omega⟩ hbig
    have hn : its ≠ [] := fun e => hsame (.inl (hxi.mpr e))
    have hi : its.toArray.isEmpty = false := by
      rw [hie]
      cases its with
      | nil => exact absurd rfl hn
      | cons a b => rfl
    have c1 : (its.toArray.isEmpty || k == 1) = false := by
      rw [hi, Bool.false_or]
      exact beq_eq_false_iff_ne.mpr (by omega)
    have c2 : (decide (k ≤ 0) || its.toArray.isEmpty) = true := by
      rw [decide_eq_true hk0]; rfl
    have hk : k.toNat = 0 := by omega
    refine wpAny_binaryOp_repeat_ref (T := "tuple") (U := "int") (by decide) ⟨_, ho, rfl⟩ (fun s' => typeIs_int s' k t) noFill_tuple_mul F.fills_int_mul F.slot_int_rmul repeat_tuple F.slot_int_index.lookup
      (call_meets F.slot_int_rmul (typeIs_int s k t) F.entry_int_rmul (F.args_int_rmul_2 _ _) (int_rmul_tuple k t l its.toArray n dd sl)
        ⟨ho, rfl, ⟨_, ho, rfl⟩, call_meets F.slot_tuple_mul ⟨_, ho, rfl⟩ F.entry_tuple_mul (F.args_tuple_mul_2 _ _) (tuple_mulN l its.toArray n dd sl k t c0 c1 c2) ⟨ho, ?_⟩⟩)
    have q := q2 hsame
    rw [hk] at q
    refine ⟨.ref s.heap.objs.size, _, I.laid (t' := s.toks) (o := .tup []) (fun b ob q => Heap.get?_push_of_some _ q) (Nat.le_refl _) ?_, rfl, q _ (I.hok.fresh (Nat.le_refl _))⟩
    exact ⟨Nat.zero_le _, [], .nil, IsTup.new _ _⟩
end PyD

/-! PyE4: == and != of values, by the layer's data. -/
namespace PyD
open PySem PySem.Spec PyProof.Rows L2
mutual
def pdD : D → PyData
  | .non => .none
  | .bl b => .bool b
  | .int i => .int i
  | .str s => .str (Str.ofString s)
  | .tup ds => .tuple (pdDs ds)
  | .lst ds => .list (pdDs ds)
  | .rol ds => .list (pdDs ds)
  | .ref _ => .none
  | .fn _ => .none
def pdDs : List D → List PyData
  | [] => []
  | d :: ds => pdD d :: pdDs ds
end
theorem strOk_of (s : String) : PyData.strOk (Str.ofString s) = true := by
  unfold PyData.strOk
  rw [Str.ofString_eq_toList]
  simp only [List.all_toArray, List.all_map, List.all_eq_true]
  intro c _
  have := c.valid
  simp only [Function.comp, decide_eq_true_eq, Char.toNat]
  rcases this with h | h
  · exact Nat.lt_trans h (by decide)
  · exact h.2
mutual
theorem pd_lay : ∀ d : D, PyData.canLay0 (pdD d) = true
  | .non => rfl
  | .bl _ => rfl
  | .int _ => rfl
  | .str s => by simp only [pdD, PyData.canLay0]; exact strOk_of s
  | .tup ds => by simp only [pdD, PyData.canLay0]; exact pds_lay ds
  | .lst ds => by simp only [pdD, PyData.canLay0]; exact pds_lay ds
  | .rol ds => by simp only [pdD, PyData.canLay0]; exact pds_lay ds
  | .ref _ => rfl
  | .fn _ => rfl
theorem pds_lay : ∀ ds : List D, PyData.canLayAll0 (pdDs ds) = true
  | [] => rfl
  | d :: ds => by simp only [pdDs, PyData.canLayAll0, pd_lay d, pds_lay ds]; rfl
end
mutual
theorem pd_dep : ∀ d : D, (pdD d).depth = depD d
  | .non => rfl
  | .bl _ => rfl
  | .int _ => rfl
  | .str s => rfl
  | .tup ds => by simp only [pdD, PyData.depth, depD, pds_dep ds]
  | .lst ds => by simp only [pdD, PyData.depth, depD, pds_dep ds]
  | .rol ds => by simp only [pdD, PyData.depth, depD, pds_dep ds]
  | .ref _ => rfl
  | .fn _ => rfl
theorem pds_dep : ∀ ds : List D, PyData.depthAll (pdDs ds) = depDs ds
  | [] => rfl
  | d :: ds => by simp only [pdDs, PyData.depthAll, depDs, pd_dep d, pds_dep ds]
end
theorem beq_str' (a b : String) : (Str.ofString a == Str.ofString b) = (a == b) := by
  have := beq_ofString a b
  by_cases e : a = b
  · subst e; simp
  · have h2 : Str.ofString a ≠ Str.ofString b := fun z => by
      rw [z] at this
      simp [e] at this
    rw [beq_eq_false_iff_ne.mpr h2, beq_eq_false_iff_ne.mpr e]
mutual
theorem pd_eq : ∀ (a b : D), closed a = true → closed b = true → PyData.eqv (pdD a) (pdD b) = eqD a b
  | .non, b, _, hb => by cases b <;> first | rfl | simp [closed] at hb
  | .bl _, b, _, hb => by cases b <;> first | rfl | simp [closed] at hb
  | .int _, b, _, hb => by cases b <;> first | rfl | simp [closed] at hb
  | .str s, b, _, hb => by
    cases b with
    | str t => simp only [pdD, PyData.eqv, eqD, beqD]; exact beq_str' s t
    | ref n => simp [closed] at hb
    | fn n => simp [closed] at hb
    | _ => rfl
  | .tup xs, b, ha, hb => by
    cases b with
    | tup ys => simp only [pdD, PyData.eqv, eqD]; exact pds_eq xs ys ha hb
    | ref n => simp [closed] at hb
    | fn n => simp [closed] at hb
    | _ => rfl
  | .lst xs, b, ha, hb => by
    cases b with
    | lst ys => simp only [pdD, PyData.eqv, eqD]; exact pds_eq xs ys ha hb
    | rol ys => simp only [pdD, PyData.eqv, eqD]; exact pds_eq xs ys ha hb
    | ref n => simp [closed] at hb
    | fn n => simp [closed] at hb
    | _ => rfl
  | .rol xs, b, ha, hb => by
    cases b with
    | lst ys => simp only [pdD, PyData.eqv, eqD]; exact pds_eq xs ys ha hb
    | rol ys => simp only [pdD, PyData.eqv, eqD]; exact pds_eq xs ys ha hb
    | ref n => simp [closed] at hb
    | fn n => simp [closed] at hb
    | _ => rfl
  | .ref _, _, ha, _ => by simp [closed] at ha
  | .fn _, _, ha, _ => by simp [closed] at ha
theorem pds_eq : ∀ (a b : List D), closeds a = true → closeds b = true → PyData.eqvAll (pdDs a) (pdDs b) = eqDs a b
  | [], [], _, _ => rfl
  | [], _ :: _, _, _ => rfl
  | _ :: _, [], _, _ => rfl
  | a :: as, b :: bs, ha, hb => by
    simp only [closeds, Bool.and_eq_true] at ha hb
    simp only [pdDs, PyData.eqvAll, eqDs, pd_eq a b ha.1 hb.1, pds_eq as bs ha.2 hb.2]
end
section
variable {K : Kw} {ρ : Rho} {H : Hp} {h : AH}
mutual
theorem dp_of : ∀ (d : D) {v : V}, closed d = true → DV K ρ H d v → Dp K H v (pdD d)
  | .non, _, _, q => by cases q.n; exact .non
  | .bl b, _, _, q => by cases q.b; exact .bl b
  | .int i, _, _, q => by cases q.i; exact .int i
  | .str s, _, _, q => by cases q.s; exact .str _
  | .tup ds, _, c, q => by
    obtain ⟨a, vs, rfl, z, y⟩ := q.t
    exact .tup z.sq (dps_of ds c y)
  | .lst ds, _, c, q => by
    obtain ⟨a, vs, rfl, z, y⟩ := q.l
    exact .lst z.sq (dps_of ds c y)
  | .rol ds, _, c, q => by
    obtain ⟨a, vs, rfl, z, y⟩ := q.o
    exact .lst z.sq (dps_of ds c y)
  | .ref _, _, c, _ => by simp [closed] at c
theorem dps_of : ∀ (ds : List D) {vs : List V}, closeds ds = true → DVs K ρ H ds vs → DpAll K H vs (pdDs ds)
  | [], _, _, q => by simp only [DVs] at q; subst q; exact .nil
  | d :: ds, _, c, q => by
    simp only [closeds, Bool.and_eq_true] at c
    simp only [DVs] at q
    obtain ⟨v, r, rfl, q1, q2⟩ := q
    exact .cons (dp_of d c.1 q1) (dps_of ds c.2 q2)
end
theorem dp_rsv {d : D} {v : V} (r : RepH K ρ H h) (c : closed (rsv d h) = true) (q : DV K ρ H d v) : Dp K H v (pdD (rsv d h)) := by
  cases d with
  | ref n =>
    simp only [rsv] at c ⊢
    obtain ⟨a, rfl, e⟩ := q.r
    obtain ⟨o, eo, ok⟩ := r.at' e
    cases o with
    | dct kvs => rw [eo] at c; simp [closed] at c
    | ids ks => rw [eo] at c; simp [closed] at c
    | lst ds =>
      rw [eo] at c ⊢
      obtain ⟨vs, e1, y⟩ := ok
      exact .lst (.inl (.inl e1)) (dps_of ds c y)
  | _ => exact dp_of _ c q
theorem eqO_ok {a b : D} {k : Bool} {x y : V} (r : RepH K ρ H h) (qa : DV K ρ H a x) (qb : DV K ρ H b y) (e : eqO a b h = some k) : ∃ d e, Dp K H x d ∧ Dp K H y e ∧ SeqAt.shaped d = true ∧ SeqAt.shaped e = true ∧ PyData.eqv d e = k := by
  unfold eqO at e
  split at e
  case isFalse => cases e
  rename_i hz
  simp only [Bool.and_eq_true, decide_eq_true_eq] at hz
  cases e
  refine ⟨_, _, dp_rsv r hz.1.1.1 qa, dp_rsv r hz.1.1.2 qb, ?_, ?_, pd_eq _ _ hz.1.1.1 hz.1.1.2⟩
  · unfold SeqAt.shaped
    rw [pd_lay, pd_dep, Bool.true_and, decide_eq_true_eq]; omega
  · unfold SeqAt.shaped
    rw [pd_lay, pd_dep, Bool.true_and, decide_eq_true_eq]; omega
end
theorem op_eqO {X : Cx} (hu : X.A.units + 64 < cLine) : OpR X (compareOp .Eq) (rB X.kw fun x y h => (eqO x y h).map D.bl) := by
  intro pins s σ H x y v u Q I rx ry ⟨ρ, h, a, b, d, rh, qa, qb, e, o⟩
  simp only [Option.map_eq_some_iff] at e
  obtain ⟨k, e, rfl⟩ := e
  obtain ⟨d1, d2, p1, p2, s1, s2, ek⟩ := eqO_ok rh qa qb e
  exact op_eqD hu pins s σ H x y v u Q I rx ry ⟨d1, d2, p1, p2, s1, s2, by rw [ek]; exact o.here rh (DV.bl' _)⟩
theorem op_neO {X : Cx} (hu : X.A.units + 64 < cLine) : OpR X (compareOp .NotEq) (rB X.kw fun x y h => ((eqO x y h).map not).map D.bl) := by
  intro pins s σ H x y v u Q I rx ry ⟨ρ, h, a, b, d, rh, qa, qb, e, o⟩
  simp only [Option.map_eq_some_iff] at e
  obtain ⟨k0, ⟨k, e, rfl⟩, rfl⟩ := e
  obtain ⟨d1, d2, p1, p2, s1, s2, ek⟩ := eqO_ok rh qa qb e
  exact op_neD hu pins s σ H x y v u Q I rx ry ⟨d1, d2, p1, p2, s1, s2, by rw [ek]; exact o.here rh (DV.bl' _)⟩
end PyD

/-! PyD2: operators by data. -/
namespace PyD
open PySem PySem.Spec PyProof.Rows L2
section
variable {K : Kw} {ρ : Rho} {H : Hp} {h : AH}
theorem DVs.nil_iff {ds : List D} {vs : List V} (q : DVs K ρ H ds vs) : vs = [] ↔ ds = [] := by
  cases ds with
  | nil => simp only [DVs] at q; subst q; simp
  | cons d ds =>
    simp only [DVs] at q
    obtain ⟨v, r, rfl, _⟩ := q
    simp
end
section
variable {X : Cx}
theorem op_addD : OpR X (binaryOp .Add) (rB X.kw fun x y _ => binop .add x y) := by
  intro pins s σ H x y v u Q I rx ry ⟨ρ, h, a, b, d, rh, qa, qb, e, o⟩
  cases a with
  | int i =>
    cases b with
    | int j =>
      simp only [binop, Option.some.injEq] at e; subst e
      cases qa.i; cases qb.i
      exact op_add pins s σ H _ _ v u Q I rx ry ⟨i, j, rfl, rfl, o.here rh (DV.int' _)⟩
    | _ => simp [binop] at e
  | str i =>
    cases b with
    | str j =>
      simp only [binop] at e
      split at e
      case isFalse => cases e
      rename_i hz
      simp only [Option.some.injEq] at e; subst e
      cases qa.s; cases qb.s
      have len : ∀ z : String, (Str.ofString z).length = z.length := fun z => by
        show (Str.ofString z).cps.size = z.length
        unfold Str.ofString
        rw [cpsOfBytes_string]
        simp [String.length_toList]
      have app : Str.ofString i ++ Str.ofString j = Str.ofString (i ++ j) := by
        show (⟨(Str.ofString i).cps ++ (Str.ofString j).cps⟩ : Str) = _
        unfold Str.ofString
        rw [cpsOfBytes_string, cpsOfBytes_string, cpsOfBytes_string]
        simp
      exact op_add_str pins s σ H _ _ v u Q I rx ry ⟨_, _, rfl, rfl, by rw [len, len, lim_eq]; exact hz, by rw [app]; exact o.here rh (DV.str' _)⟩
    | _ => simp [binop] at e
  | tup xs =>
    cases b with
    | tup ys =>
      simp only [binop] at e
      split at e
      case isFalse => cases e
      rename_i hz
      simp only [Option.some.injEq] at e; subst e
      obtain ⟨a, vs, rfl, za, ya⟩ := qa.t
      obtain ⟨b, ws, rfl, zb, yb⟩ := qb.t
      by_cases hv : vs = []
      · have hx := ya.nil_iff.mp hv
        subst hx
        cases rx; cases ry
        obtain ⟨its, r1, p1, _⟩ := I.tuple za.sq
        obtain ⟨its2, r2, p2, _⟩ := I.tuple zb.sq
        obtain ⟨⟨cls, dd, data, sl⟩, ho, hc, n, hd⟩ := id p1
        obtain ⟨⟨cls2, dd2, data2, sl2⟩, ho2, hc2, n2, hd2⟩ := id p2
        simp only at hc hd hc2 hd2
        subst hc hd hc2 hd2
        have hi : its = [] := r1.nil_iff.mpr hv
        refine concat_meets ⟨_, ho, rfl⟩ ⟨_, ho2, rfl⟩ PySem.noFill_tuple_add PySem.seq_tuple_add PySem.F.slot_tuple_add PySem.F.entry_tuple_add (PySem.F.args_tuple_add_2 _ _)
          (tuple_addW0 a b its.toArray its2.toArray n n2 dd dd2 sl sl2 (by simp [hi])) ⟨ho, ho2, ?_⟩
        refine ⟨.ref b, H, I, rfl, o.here rh ?_⟩
        simp only [DV, List.nil_append]
        exact ⟨b, ws, rfl, zb, yb⟩
      · refine op_catT pins s σ H _ _ v u Q I rx ry ⟨a, b, vs, ws, rfl, rfl, za.sq, zb.sq, hv, by rw [← ya.length, ← yb.length, lim_eq]; exact hz, fun hw => ?_, fun _ => o.tup rh (ya.append yb)⟩
        have hy := yb.nil_iff.mp hw
        subst hy
        refine o.here rh ?_
        simp only [DV, List.append_nil]
        exact ⟨a, vs, rfl, za, ya⟩
    | _ => simp [binop] at e
  | _ => cases b <;> simp [binop] at e
theorem op_subD : OpR X (binaryOp .Sub) (rB X.kw fun x y _ => binop .sub x y) := by
  intro pins s σ H x y v u Q I rx ry ⟨ρ, h, a, b, d, rh, qa, qb, e, o⟩
  cases a with
  | int i =>
    cases b with
    | int j =>
      simp only [binop, Option.some.injEq] at e; subst e
      cases qa.i; cases qb.i
      exact op_sub pins s σ H _ _ v u Q I rx ry ⟨i, j, rfl, rfl, o.here rh (DV.int' _)⟩
    | _ => simp [binop] at e
  | _ => cases b <;> simp [binop] at e
theorem op_mulD : OpR X (binaryOp .Mult) (rB X.kw fun x y _ => binop .mul x y) := by
  intro pins s σ H x y v u Q I rx ry ⟨ρ, h, a, b, d, rh, qa, qb, e, o⟩
  cases a with
  | int i =>
    cases b with
    | int j =>
      simp only [binop] at e
      split at e
      case isFalse => cases e
      rename_i hz
      simp only [Option.some.injEq] at e; subst e
      cases qa.i; cases qb.i
      exact op_mul pins s σ H _ _ v u Q I rx ry ⟨i, j, rfl, rfl, hz, o.here rh (DV.int' _)⟩
    | _ => simp [binop] at e
  | tup xs =>
    cases b with
    | int k =>
      simp only [binop] at e
      split at e
      case isFalse => cases e
      rename_i hz
      simp only [Option.some.injEq] at e; subst e
      obtain ⟨a, vs, rfl, za, ya⟩ := qa.t
      cases qb.i
      refine op_repA pins s σ H _ _ v u Q I rx ry ⟨a, k, vs, rfl, rfl, za.sq, hz.1, hz.2.1, by rw [← ya.length]; exact hz.2.2, fun hs => o.here rh ?_, fun hs => o.tup rh (ya.rep _)⟩
      have er : (List.replicate k.toNat xs).flatten = xs := by
        rcases hs with e | e
        · rw [ya.nil_iff.mp e]; simp
        · subst e; simp
      rw [er]
      simp only [DV]
      exact ⟨a, vs, rfl, za, ya⟩
    | _ => simp [binop] at e
  | _ => cases b <;> simp [binop] at e
theorem op_fdivD : OpR X (binaryOp .FloorDiv) (rB X.kw fun x y _ => binop .fdiv x y) := by
  intro pins s σ H x y v u Q I rx ry ⟨ρ, h, a, b, d, rh, qa, qb, e, o⟩
  cases a with
  | int i =>
    cases b with
    | int j =>
      simp only [binop] at e
      split at e
      case isFalse => cases e
      rename_i hz
      simp only [Option.some.injEq] at e; subst e
      cases qa.i; cases qb.i
      exact op_fdiv pins s σ H _ _ v u Q I rx ry ⟨i, j, rfl, rfl, hz, o.here rh (DV.int' _)⟩
    | _ => simp [binop] at e
  | _ => cases b <;> simp [binop] at e
theorem op_modD : OpR X (binaryOp .Mod) (rB X.kw fun x y _ => binop .mod x y) := by
  intro pins s σ H x y v u Q I rx ry ⟨ρ, h, a, b, d, rh, qa, qb, e, o⟩
  cases a with
  | int i =>
    cases b with
    | int j =>
      simp only [binop] at e
      split at e
      case isFalse => cases e
      rename_i hz
      simp only [Option.some.injEq] at e; subst e
      cases qa.i; cases qb.i
      exact op_mod pins s σ H _ _ v u Q I rx ry ⟨i, j, rfl, rfl, hz, o.here rh (DV.int' _)⟩
    | _ => simp [binop] at e
  | _ => cases b <;> simp [binop] at e
theorem op_powD : OpR X (binaryOp .Pow) (rB X.kw fun x y _ => binop .pow x y) := by
  intro pins s σ H x y v u Q I rx ry ⟨ρ, h, a, b, d, rh, qa, qb, e, o⟩
  cases a with
  | int i =>
    cases b with
    | int j =>
      simp only [binop] at e
      split at e
      case isFalse => cases e
      rename_i hz
      simp only [Option.some.injEq] at e; subst e
      cases qa.i; cases qb.i
      exact op_pow pins s σ H _ _ v u Q I rx ry ⟨i, j, rfl, rfl, hz, o.here rh (DV.int' _)⟩
    | _ => simp [binop] at e
  | _ => cases b <;> simp [binop] at e
def bopP : Bop → Operator
  | .add => .Add | .sub => .Sub | .mul => .Mult | .fdiv => .FloorDiv | .mod => .Mod | .pow => .Pow
theorem op_binD : ∀ op : Bop, OpR X (binaryOp (bopP op)) (rB X.kw fun x y _ => binop op x y)
  | .add => op_addD | .sub => op_subD | .mul => op_mulD | .fdiv => op_fdivD | .mod => op_modD | .pow => op_powD

/-! ### comparisons -/
def copP : Cop → CmpOp
  | .lt => .Lt | .le => .LtE | .gt => .Gt | .ge => .GtE | .eq => .Eq | .ne => .NotEq | .is => .Is | .isnot => .IsNot | .isin => .In | .notin => .NotIn
abbrev cmpB (K : Kw) (op : Cop) : R2 := rB K fun x y h => (cmpop op x y h).map .bl
theorem cmpI {op : Cop} {f : Int → Int → Bool} (hop : OpR X (compareOp (copP op)) (rI0 fun i j => .bl (f i j))) (hf : ∀ a b h, cmpop op a b h = match a, b with | .int i, .int j => some (f i j) | _, _ => none) :
    OpR X (compareOp (copP op)) (cmpB X.kw op) := by
  intro pins s σ H x y v u Q I rx ry ⟨ρ, h, a, b, d, rh, qa, qb, e, o⟩
  simp only [hf] at e
  cases a with
  | int i =>
    cases b with
    | int j =>
      simp only [Option.map_some, Option.some.injEq] at e; subst e
      cases qa.i; cases qb.i
      exact hop pins s σ H _ _ v u Q I rx ry ⟨i, j, rfl, rfl, o.here rh (DV.bl' _)⟩
    | _ => simp at e
  | _ => cases b <;> simp at e
theorem op_ltD : OpR X (compareOp .Lt) (cmpB X.kw .lt) := cmpI (op := .lt) (f := fun i j => decide (i < j)) op_lt fun a b h => by cases a <;> cases b <;> rfl
theorem op_leD : OpR X (compareOp .LtE) (cmpB X.kw .le) := cmpI (op := .le) (f := fun i j => decide (i ≤ j)) op_le fun a b h => by cases a <;> cases b <;> rfl
theorem op_gtD : OpR X (compareOp .Gt) (cmpB X.kw .gt) := cmpI (op := .gt) (f := fun i j => decide (j < i)) op_gt fun a b h => by cases a <;> cases b <;> rfl
theorem op_geD : OpR X (compareOp .GtE) (cmpB X.kw .ge) := cmpI (op := .ge) (f := fun i j => decide (j ≤ i)) op_ge fun a b h => by cases a <;> cases b <;> rfl
theorem deq_V {K : Kw} {ρ : Rho} {H : Hp} {a b : D} {x y : V} {k : Bool} (qa : DV K ρ H a x) (qb : DV K ρ H b y) (e : deq a b = some k) : scal x y = true ∧ decide (x = y) = k := by
  cases a with
  | non =>
    cases qa.n
    cases b with
    | non => cases qb.n; simp [deq, flat, beqD] at e; subst e; exact ⟨rfl, by simp⟩
    | bl b => cases qb.b; simp [deq, flat, beqD] at e; subst e; exact ⟨rfl, by simp⟩
    | int b => cases qb.i; simp [deq, flat, beqD] at e; subst e; exact ⟨rfl, by simp⟩
    | str b => cases qb.s; simp [deq, flat, beqD] at e; subst e; exact ⟨rfl, by simp⟩
    | _ => simp [deq, flat] at e
  | bl a =>
    cases qa.b
    cases b with
    | non => cases qb.n; simp [deq, flat, beqD] at e; subst e; exact ⟨rfl, by simp⟩
    | bl b => cases qb.b; simp [deq, flat, beqD] at e; subst e; exact ⟨rfl, by rw [dec_bl]⟩
    | str b => cases qb.s; simp [deq, flat, beqD] at e; subst e; exact ⟨rfl, by simp⟩
    | _ => simp [deq, flat] at e
  | int a =>
    cases qa.i
    cases b with
    | non => cases qb.n; simp [deq, flat, beqD] at e; subst e; exact ⟨rfl, by simp⟩
    | int b => cases qb.i; simp [deq, flat, beqD] at e; subst e; exact ⟨rfl, by rw [dec_int]⟩
    | str b => cases qb.s; simp [deq, flat, beqD] at e; subst e; exact ⟨rfl, by simp⟩
    | _ => simp [deq, flat] at e
  | str a =>
    cases qa.s
    cases b with
    | non => cases qb.n; simp [deq, flat, beqD] at e; subst e; exact ⟨rfl, by simp⟩
    | bl b => cases qb.b; simp [deq, flat, beqD] at e; subst e; exact ⟨rfl, by simp⟩
    | int b => cases qb.i; simp [deq, flat, beqD] at e; subst e; exact ⟨rfl, by simp⟩
    | str b => cases qb.s; simp [deq, flat, beqD] at e; subst e; exact ⟨rfl, by rw [dec_str, beq_ofString]⟩
    | _ => simp [deq, flat] at e
  | _ => cases b <;> simp [deq, flat] at e
theorem op_eqD' (hu : X.A.units + 64 < cLine) : OpR X (compareOp .Eq) (cmpB X.kw .eq) := op_eqO hu
theorem op_neD' (hu : X.A.units + 64 < cLine) : OpR X (compareOp .NotEq) (cmpB X.kw .ne) := op_neO hu
def isN : D → Bool
  | .non => true
  | _ => false
theorem isN_V {K : Kw} {ρ : Rho} {H : Hp} {a : D} {x : V} (qa : DV K ρ H a x) : decide (x = .non) = isN a := by
  cases a with
  | non => cases qa.n; rfl
  | bl b => cases qa.b; rfl
  | int b => cases qa.i; rfl
  | str b => cases qa.s; rfl
  | tup b => obtain ⟨_, _, rfl, _⟩ := qa.t; rfl
  | lst b => obtain ⟨_, _, rfl, _⟩ := qa.l; rfl
  | rol b => obtain ⟨_, _, rfl, _⟩ := qa.o; rfl
  | ref b => obtain ⟨_, rfl, _⟩ := qa.r; rfl
  | fn b => obtain ⟨_, rfl, _⟩ := qa.f; rfl
def isB (b : Bool) : D → Bool
  | .bl c => c == b
  | _ => false
theorem op_isB {pins : List (Addr × Obj)} {s : Shared} {σ : L2.St} {H : Hp} {x : V} {v : Value} {b : Bool} {Q : VK} {a : D} {K : Kw} {ρ : Rho} (I : Inv X pins σ H s) (rx : RelV x v) (qa : DV K ρ H a x) (q : Q (.bl (isB b a)) H) :
    wpAny (model X.prog X.w) X.A (compareOp .Is v (.bool b)) (EP X pins σ Q) X.xe s := by
  have go : ∀ {v : Value}, plainIs v (.bool b) = true → (v == Value.bool b) = isB b a → wpAny (model X.prog X.w) X.A (compareOp .Is v (.bool b)) (EP X pins σ Q) X.xe s := fun {v} hp he => by
    refine wpAny_is_plain hp ?_
    rw [he]
    exact ⟨.bl _, H, I, rfl, q⟩
  cases a with
  | non => cases qa.n; cases rx; exact go rfl rfl
  | bl c => cases qa.b; cases rx; exact go rfl (by rw [Bool.eq_iff_iff]; simp [isB])
  | int c => cases qa.i; obtain ⟨t, rfl⟩ := rx; exact go rfl rfl
  | str c => cases qa.s; obtain ⟨t, rfl⟩ := rx; exact go rfl rfl
  | tup c => obtain ⟨_, _, rfl, _⟩ := qa.t; cases rx; exact go rfl rfl
  | lst c => obtain ⟨_, _, rfl, _⟩ := qa.l; cases rx; exact go rfl rfl
  | rol c => obtain ⟨_, _, rfl, _⟩ := qa.o; cases rx; exact go rfl rfl
  | ref c => obtain ⟨_, rfl, _⟩ := qa.r; cases rx; exact go rfl rfl
  | fn c => obtain ⟨_, rfl, _⟩ := qa.f; cases rx; exact go rfl rfl
theorem op_isD : OpR X (compareOp .Is) (cmpB X.kw .is) := by
  intro pins s σ H x y v u Q I rx ry ⟨ρ, h, a, b, d, rh, qa, qb, e, o⟩
  cases b with
  | non =>
    have e' : d = .bl (isN a) := by
      cases a <;> simp [cmpop] at e <;> exact e.symm
    subst e'
    exact op_isN pins s σ H x y v u Q I rx ry ⟨qb.n, by rw [isN_V qa]; exact o.here rh (DV.bl' _)⟩
  | bl b =>
    have e' : d = .bl (isB b a) := by
      cases a <;> simp [cmpop] at e <;> exact e.symm
    subst e'
    cases qb.b
    cases ry
    exact op_isB I rx qa (o.here rh (DV.bl' _))
  | _ => cases a <;> simp [cmpop] at e
theorem op_isnotD : OpR X (compareOp .IsNot) (cmpB X.kw .isnot) := by
  intro pins s σ H x y v u Q I rx ry ⟨ρ, h, a, b, d, rh, qa, qb, e, o⟩
  cases b with
  | non =>
    have e' : d = .bl (!isN a) := by
      cases a <;> simp [cmpop] at e <;> exact e.symm
    subst e'
    exact op_notN pins s σ H x y v u Q I rx ry ⟨qb.n, by rw [isN_V qa]; exact o.here rh (DV.bl' _)⟩
  | _ => cases a <;> simp [cmpop] at e
theorem op_inD : OpR X (compareOp .In) (cmpB X.kw .isin) := by
  intro pins s σ H x y v u Q I rx ry ⟨ρ, h, a, b, d, rh, qa, qb, e, o⟩
  simp only [cmpop] at e
  cases ei : items b h with
  | none => simp [ei] at e
  | some ds =>
    obtain ⟨p, vs, rfl, sq, qs⟩ := items_sq rh qb ei
    simp only [ei, Option.bind_some] at e
    split at e
    case isFalse => simp at e
    rename_i hz
    rw [Bool.and_eq_true] at hz
    simp only [Option.map_some, Option.some.injEq] at e; subst e
    exact op_in_seq pins s σ H x _ v u Q I rx ry ⟨p, vs, rfl, sq, flat_V qa hz.1, flats_V qs hz.2, by
      rw [inV_beqD qa hz.1 qs hz.2]; exact o.here rh (DV.bl' _)⟩
theorem op_notinD : OpR X (compareOp .NotIn) (cmpB X.kw .notin) := by
  intro pins s σ H x y v u Q I rx ry ⟨ρ, h, a, b, d, rh, qa, qb, e, o⟩
  simp only [cmpop] at e
  cases ei : items b h with
  | none => simp [ei] at e
  | some ds =>
    obtain ⟨p, vs, rfl, sq, qs⟩ := items_sq rh qb ei
    simp only [ei, Option.bind_some] at e
    split at e
    case isFalse => simp at e
    rename_i hz
    rw [Bool.and_eq_true] at hz
    simp only [Option.map_some, Option.some.injEq] at e; subst e
    exact op_notIn_seq pins s σ H x _ v u Q I rx ry ⟨p, vs, rfl, sq, flat_V qa hz.1, flats_V qs hz.2, by
      rw [inV_beqD qa hz.1 qs hz.2]; exact o.here rh (DV.bl' _)⟩
theorem op_cmpD (hu : X.A.units + 64 < cLine) : ∀ op : Cop, OpR X (compareOp (copP op)) (cmpB X.kw op)
  | .lt => op_ltD | .le => op_leD | .gt => op_gtD | .ge => op_geD | .eq => op_eqD' hu | .ne => op_neD' hu | .is => op_isD | .isnot => op_isnotD | .isin => op_inD | .notin => op_notinD
end
end PyD

/-! PyD2b: a tuple's slice that is the whole of it. -/
namespace PyD
open PySem PySem.Spec PyProof.Rows L2 HT
section
variable {prog : Program} {w : World} {A : Around} {E : Value → Shared → Prop} {s : Shared}
theorem getItem_tuple_whole {t sl : Addr} {items : Array Value} {vl vu : Value} {lo hi : Option Int} {Q : Value → Shared → Prop} (ht : IsTup s.heap t items) (hs : s.heap.IsSliceOf sl vl vu .none) (pl : IsPart vl lo) (pu : IsPart vu hi)
    (hw : sIx items.size 0 lo = 0 ∧ sIx items.size items.size hi = items.size)
    (h : Q (.ref t) s) : wpAny (model prog w) A (getItem (.ref t) (.ref sl)) Q E s := by
  obtain ⟨os, hos, hcs, hds⟩ := id hs
  have hTs : s.TypeIs (.ref sl) "slice" := ⟨os, hos, hcs⟩
  unfold getItem
  try with_reducible refine wpAny_holding ?_
  first | refine wpAny_bind (wpAny_pure ?_) | skip
  refine wpAny_bind (wpAny_sequenceKey ht.typeIs (by decide) ?_)
  refine wpAny_bind (wpAny_callSpecial?_slot (name := Str.ofString "__getitem__") ht.typeIs PyProof.Rows.slot_tuple_getitem
    (wpAny_call_entry PyProof.Rows.slot_tuple_getitem ht.typeIs entry_tuple_getitem ?_ (args_tuple_getitem _ _)))
  show wpAny _ _ (Builtin.Tuple.tupleItemsOf (.ref t) >>= _) _ _ s
  refine wpAny_bind (tupleItemsOf_ ht ?_)
  refine wpAny_bind (wpAny_typeOf hTs ?_)
  rw [if_pos (by decide)]
  refine wpAny_bind (sliceApplied_gen hs pl pu ?_)
  have hyes : (((sIx items.size 0 lo : Nat) : Int) == 0 && (1 : Int) == 1 && (sIx items.size items.size hi - sIx items.size 0 lo) == items.size) = true := by
    rw [hw.1, hw.2]; simp
  show wpAny _ _ (if (((sIx items.size 0 lo : Nat) : Int) == 0 && (1 : Int) == 1 && (sIx items.size items.size hi - sIx items.size 0 lo) == items.size) = true then _ else _) _ _ s
  rw [if_pos hyes]
  unfold Builtin.Tuple.tupleIsExact
  first
    | exact wpAny_bind (wpAny_bind (wpAny_typeOf ht.typeIs (wpAny_pure (by rw [if_pos (by decide)]; exact wpAny_bind (wpAny_rule (wpAny_pure ⟨_, rfl, wpAny_pure h⟩))))))
    | (refine wpAny_bind (wpAny_bind (wpAny_typeOf ht.typeIs (wpAny_pure ?_)))
       rw [if_pos (by decide)]
       refine wpAny_bind (wpAny_rule ?_)
       trace_state
       exact wpAny_pure ⟨_, rfl, wpAny_pure h⟩)
end
section
variable {X : Cx}
/-- t[lo:hi] -/
def rSlA (K : Kw) : V → Option Int → Option Int → Hp → VK → Prop := fun x lo hi H Q => ∃ a xs, x = .ref a ∧ SqT K H a xs ∧
  (cutV xs lo hi = xs → Q (.ref a) H) ∧ ∀ p, H p = none → Q (.ref p) (upd H p (.tup (cutV xs lo hi)))
theorem sl_tupA : SlR X (rSlA X.kw) := by
  intro pins s σ H x v vl vu lo hi sl Q I rx hs pl pu h
  obtain ⟨a, xs, rfl, hx, hw, q⟩ := h
  by_cases hz : HT.sIx xs.length 0 lo = 0 ∧ HT.sIx xs.length xs.length hi = xs.length
  · cases rx
    obtain ⟨its, r, ht, _⟩ := I.tuple hx
    have hlen : its.toArray.size = xs.length := by rw [List.size_toArray]; exact r.length.symm
    refine ⟨"tuple", _, PyProof.Rows.slot_tuple_getitem.lookup, ht.typeIs, ?_⟩
    refine getItem_tuple_whole ht hs pl pu (by rw [hlen]; exact hz) ⟨.ref a, H, I, rfl, hw ?_⟩
    unfold cutV
    rw [hz.1, hz.2]; simp
  · exact sl_tup pins s σ H _ v vl vu lo hi sl Q I rx hs pl pu ⟨a, xs, rfl, hx, hz, q⟩
end
end PyD

/-! PyD3: expressions by data. -/
namespace PyD
open PySem PySem.Spec PyProof.Rows L2

/-! ### the syntax's side conditions -/
def plainE : Expr → Bool
  | .Starred .. => false
  | .Slice .. => false
  | _ => true
theorem star_cons {e : Expr} (h : plainE e = true) (es : List Expr) (env : Env) : starEach (e :: es) env = (false, eval e env) :: starEach es env := by
  cases e <;> first | rfl | simp [plainE] at h
theorem star_any (pos : Pos) (env : Env) : ∀ {es : List Expr}, es.all plainE = true → (backTo pos (starEach es env)).any (·.1) = false
  | [], _ => rfl
  | e :: es, h => by
    rw [List.all_cons, Bool.and_eq_true] at h
    rw [star_cons h.1]
    show (false || (backTo pos (starEach es env)).any (·.1)) = false
    rw [star_any pos env h.2]; rfl
theorem star_all (pos : Pos) (env : Env) : ∀ {es : List Expr}, es.all plainE = true → (backTo pos (starEach es env)).all (fun x => !x.1) = true
  | [], _ => rfl
  | e :: es, h => by
    rw [List.all_cons, Bool.and_eq_true] at h
    rw [star_cons h.1]
    show (true && (backTo pos (starEach es env)).all (fun x => !x.1)) = true
    rw [star_all pos env h.2]; rfl
theorem plain_ix {b : Expr} (h : plainE b = true) : PlainIx b := by
  intro o i
  cases b <;> first | rfl | simp [plainE] at h

section
variable {X : Cx} {e a b : Expr} {es : List Expr} {pos : Pos} {m ma mb : Sl → AH → Option (D × AH)} {ms : Sl → AH → Option (List D × AH)}
/-! ### lists of expressions -/
theorem ra_nil : RA X [] (fun _ h => some ([], h)) := pa_nil.imp fun σ H Q ⟨ρ, σd, h, ds, h', rs, rh, e, o⟩ => by
  simp only [Option.some.injEq, Prod.mk.injEq] at e
  obtain ⟨rfl, rfl⟩ := e
  exact o [] H ρ (Ext.refl _ _) rh .nil
theorem ra_cons (hp : plainE e = true) (he : RE X e m) (hs : RA X es ms) : RA X (e :: es) (fun σ h => (m σ h).bind fun (d, h1) => (ms σ h1).bind fun (ds, h2) => some (d :: ds, h2)) :=
  (pa_cons he hs (star_cons hp _ _)).imp fun σ H Q ⟨ρ, σd, h, ds, h', rs, rh, e, o⟩ => by
    cases ea : m σd h with
    | none => simp [ea] at e
    | some p =>
      obtain ⟨x, h1⟩ := p
      cases eb : ms σd h1 with
      | none => simp [ea, eb] at e
      | some p =>
        obtain ⟨xs, h2⟩ := p
        simp [ea, eb] at e
        obtain ⟨rfl, rfl⟩ := e
        exact ⟨ρ, σd, h, x, h1, rs, rh, ea, fun v H1 ρ1 e1 r1 q1 => ⟨ρ1, σd, h1, xs, h2, rs.ext e1, r1, eb, fun vs H2 ρ2 e2 r2 q2 => o _ H2 ρ2 (e1.trans e2) r2 (.cons (DV.ext e2 x q1) q2)⟩⟩

/-! ### atoms -/
theorem re_var {i : Nat} {x : Str} (hN : X.N[i]? = some x) (hv : Vis X.env.scope x) (hd : (x == ("__debug__" : Str)) = false) (hcd : (x == ("__classdict__" : Str)) = false) :
    RE X (.Name x pos) (fun σ h => match σ[i]? with | some (some d) => some (d, h) | _ => none) :=
  (pe_var hN hv hd hcd).imp fun σ H Q ⟨ρ, σd, h, d, h', rs, rh, e, o⟩ => by
    cases ei : σd[i]? with
    | none => simp [ei] at e
    | some z =>
      cases z with
      | none => simp [ei] at e
      | some d' =>
        simp only [ei, Option.some.injEq, Prod.mk.injEq] at e
        obtain ⟨rfl, rfl⟩ := e
        obtain ⟨v, e1, q⟩ := rs.val i _ ei
        exact ⟨v, e1, o.here rh q⟩
theorem re_c {v : V} {d : D} (h : PE X e (tC v)) (q : ∀ ρ H, DV X.kw ρ H d v) : RE X e (fun _ h => some (d, h)) :=
  h.imp fun σ H Q ⟨ρ, σd, h, d', h', rs, rh, e, o⟩ => by
    simp only [Option.some.injEq, Prod.mk.injEq] at e
    obtain ⟨rfl, rfl⟩ := e
    exact o.here rh (q ρ H)
theorem re_tup {k : Nat} (h : RA X es ms) (hz : es.length ≤ 1000) (hl : ∀ σ h ds h', ms σ h = some (ds, h') → ds.length = es.length) : RE X (.Tuple es k pos) (fun σ h => (ms σ h).bind fun (ds, h1) => some (.tup ds, h1)) :=
  (pe_tup h).imp fun σ H Q ⟨ρ, σd, h, d, h', rs, rh, e, o⟩ => by
    cases ea : ms σd h with
    | none => simp [ea] at e
    | some p =>
      obtain ⟨xs, h1⟩ := p
      simp [ea] at e
      obtain ⟨rfl, rfl⟩ := e
      refine ⟨ρ, σd, h, xs, h1, rs, rh, ea, fun vs H1 ρ1 e1 r1 q1 => ⟨?_, (o.ext e1).tup r1 q1⟩⟩
      have := hl _ _ _ _ ea
      rw [← q1.length, this, lim_eq]
      exact Nat.le_trans hz (by decide)
theorem rf_disp (h : RA X es ms) (hz : es.length ≤ 1000) (hl : ∀ σ h ds h', ms σ h = some (ds, h') → ds.length = es.length) : RF X (.List es pos) ms :=
  (pe_lst h).imp fun σ H Q ⟨ρ, σd, h, xs, h1, rs, rh, ea, o⟩ => by
    refine ⟨ρ, σd, h, xs, h1, rs, rh, ea, fun vs H1 ρ1 e1 r1 q1 => ⟨?_, fun p n => o p vs H1 ρ1 e1 r1 n q1⟩⟩
    have := hl _ _ _ _ ea
    rw [← q1.length, this, lim_eq]
    exact Nat.le_trans hz (by decide)
/-! ### a new list, as a value, as a mutable object -/
theorem re_fv (h : RF X e ms) : RE X e (fun σ h => (ms σ h).bind fun (ds, h1) => some (.lst ds, h1)) :=
  h.imp fun σ H Q ⟨ρ, σd, h, d, h', rs, rh, e, o⟩ => by
    cases ea : ms σd h with
    | none => simp [ea] at e
    | some p =>
      obtain ⟨xs, h1⟩ := p
      simp [ea] at e
      obtain ⟨rfl, rfl⟩ := e
      exact ⟨ρ, σd, h, xs, h1, rs, rh, ea, fun p vs H1 ρ1 e1 r1 n q1 => (o.ext e1).lst r1 q1 p n⟩
theorem re_fm (h : RF X e ms) : RE X e (fun σ h => (ms σ h).bind fun (ds, h1) => some (.ref h1.length, h1 ++ [.lst ds])) :=
  h.imp fun σ H Q ⟨ρ, σd, h, d, h', rs, rh, e, o⟩ => by
    cases ea : ms σd h with
    | none => simp [ea] at e
    | some p =>
      obtain ⟨xs, h1⟩ := p
      simp [ea] at e
      obtain ⟨rfl, rfl⟩ := e
      refine ⟨ρ, σd, h, xs, h1, rs, rh, ea, fun p vs H1 ρ1 e1 r1 n q1 => o _ _ (ρ1.push p) (e1.trans (Ext.push n)) (r1.push n q1) ?_⟩
      simp only [DV]
      exact ⟨p, rfl, by show (ρ1.r ++ [p])[h1.length]? = some p; rw [← r1.len]; simp⟩

/-! ### operators -/
theorem re_bin {op : Bop} (ha : RE X a ma) (hb : RE X b mb) : RE X (.BinOp a (bopP op) b pos) (fun σ h => (ma σ h).bind fun (x, h1) => (mb σ h1).bind fun (y, h2) => (binop op x y).bind fun z => some (z, h2)) :=
  (pe_op (op_binD op) ha hb).imp fun σ H Q q => tOp_imp (g := fun x y _ => binop op x y) σ H Q q
theorem re_neg (ha : RE X a ma) : RE X (.UnaryOp .USub a pos) (fun σ h => (ma σ h).bind fun (x, h1) => match x with | .int i => some (.int (-i), h1) | _ => none) :=
  (pe_un un_neg ha).imp fun σ H Q ⟨ρ, σd, h, d, h', rs, rh, e, o⟩ => by
    cases ea : ma σd h with
    | none => simp [ea] at e
    | some p =>
      obtain ⟨x, h1⟩ := p
      cases x with
      | int i =>
        simp [ea] at e
        obtain ⟨rfl, rfl⟩ := e
        refine ⟨ρ, σd, h, _, h1, rs, rh, ea, fun v H1 ρ1 e1 r1 q1 => ⟨i, q1.i, (o.ext e1).here r1 (DV.int' _)⟩⟩
      | _ => simp [ea] at e
theorem re_cmp {op : Cop} (hu : X.A.units + 64 < cLine) (ha : RE X a ma) (hb : RE X b mb) (hm : behindInMarks (copP op) b = false) :
    RE X (.Compare a [copP op] [b] pos) (fun σ h => (ma σ h).bind fun (x, h1) => (mb σ h1).bind fun (y, h2) => (cmpop op x y h2).bind fun z => some (.bl z, h2)) :=
  (pe_cmpR (op_cmpD hu op) ha hb hm).imp fun σ H Q q => by
    refine tOp_imp (g := fun x y h => (cmpop op x y h).map .bl) σ H Q ?_
    obtain ⟨ρ, σd, h, d, h', rs, rh, e, o⟩ := q
    refine ⟨ρ, σd, h, d, h', rs, rh, ?_, o⟩
    cases ea : ma σd h with
    | none => simp [ea] at e
    | some p =>
      obtain ⟨x, h1⟩ := p
      cases eb : mb σd h1 with
      | none => simp [ea, eb] at e
      | some p =>
        obtain ⟨y, h2⟩ := p
        cases eg : cmpop op x y h2 with
        | none => simp [ea, eb, eg] at e
        | some k => simpa [ea, eb, eg] using e
theorem re_chain {op op' : Cop} {c : Expr} {mc : Sl → AH → Option (D × AH)} (hu : X.A.units + 64 < cLine) (ha : RE X a ma) (hb : RE X b mb) (hc : RE X c mc) (hm : lastMarks [copP op, copP op'] [b, c] = false) :
    RE X (.Compare a [copP op, copP op'] [b, c] pos) (fun σ h => (ma σ h).bind fun (x, h1) => (mb σ h1).bind fun (y, h2) => (cmpop op x y h2).bind fun k =>
      if k then (mc σ h2).bind fun (z, h3) => (cmpop op' y z h3).bind fun k' => some (.bl k', h3) else some (.bl false, h2)) :=
  (pe_chain (op_cmpD hu op) (op_cmpD hu op') ha hb hc hm).imp fun σ H Q ⟨ρ, σd, h, d, h', rs, rh, e, o⟩ => by
    cases ea : ma σd h with
    | none => simp [ea] at e
    | some p =>
      obtain ⟨x, h1⟩ := p
      cases eb : mb σd h1 with
      | none => simp [ea, eb] at e
      | some p =>
        obtain ⟨y, h2⟩ := p
        cases eg : cmpop op x y h2 with
        | none => simp [ea, eb, eg] at e
        | some k =>
          refine ⟨ρ, σd, h, x, h1, rs, rh, ea, fun v H1 ρ1 e1 r1 q1 => ⟨ρ1, σd, h1, y, h2, rs.ext e1, r1, eb, fun w H2 ρ2 e2 r2 q2 => ⟨ρ2, h2, x, y, .bl k, r2, DV.ext e2 x q1, q2, by simp [eg], fun z H3 ρ3 e3 r3 q3 => ⟨k, q3.b, ?_⟩⟩⟩⟩
          cases k with
          | false =>
            simp [ea, eb, eg] at e
            obtain ⟨rfl, rfl⟩ := e
            rw [if_neg Bool.false_ne_true]
            exact (o.ext (e1.trans (e2.trans e3))).here r3 (DV.bl' _)
          | true =>
            rw [if_pos rfl]
            cases ec : mc σd h2 with
            | none => simp [ea, eb, eg, ec] at e
            | some p =>
              obtain ⟨z', h3⟩ := p
              cases eg' : cmpop op' y z' h3 with
              | none => simp [ea, eb, eg, ec, eg'] at e
              | some k' =>
                simp [ea, eb, eg, ec, eg'] at e
                obtain ⟨rfl, rfl⟩ := e
                exact ⟨ρ3, σd, h2, z', h3, rs.ext (e1.trans (e2.trans e3)), r3, ec, fun w' H4 ρ4 e4 r4 q4 => ⟨ρ4, h3, y, z', .bl k', r4, DV.ext (e3.trans e4) y q2, q4, by simp [eg'], o.ext (e1.trans (e2.trans (e3.trans e4)))⟩⟩
theorem truth_V {K : Kw} {ρ : Rho} {H : Hp} {h : AH} {d : D} {v : V} {k : Bool} (rh : RepH K ρ H h) (q : DV K ρ H d v) (e : truth d h = some k) : TruV K v H k := by
  have emp : ∀ {ds : List D} {vs : List V}, DVs K ρ H ds vs → vs.isEmpty = ds.isEmpty := fun {ds vs} y => by
    cases ds with
    | nil => simp only [DVs] at y; subst y; rfl
    | cons d ds =>
      simp only [DVs] at y
      obtain ⟨v, r, rfl, _⟩ := y
      rfl
  cases d with
  | non => cases q.n; simp [truth] at e; exact e
  | bl b => cases q.b; simp [truth] at e; exact e.symm
  | int b => cases q.i; simp only [truth, Option.some.injEq] at e; exact e.symm
  | str b => simp [truth] at e
  | fn b => simp [truth] at e
  | tup ds =>
    obtain ⟨a, vs, rfl, z, y⟩ := q.t
    simp only [truth, Option.some.injEq] at e
    exact .inr (.inl ⟨vs, z.sq, by rw [emp y]; exact e.symm⟩)
  | lst ds =>
    obtain ⟨a, vs, rfl, z, y⟩ := q.l
    simp only [truth, Option.some.injEq] at e
    exact .inl ⟨vs, z.sq, by rw [emp y]; exact e.symm⟩
  | rol ds =>
    obtain ⟨a, vs, rfl, z, y⟩ := q.o
    simp only [truth, Option.some.injEq] at e
    exact .inl ⟨vs, z.sq, by rw [emp y]; exact e.symm⟩
  | ref n =>
    simp only [truth] at e
    obtain ⟨a, rfl, z⟩ := q.r
    obtain ⟨ob, e1, ok⟩ := rh.at' z
    rw [e1] at e
    cases ob with
    | dct kvs => simp at e
    | ids ks => simp at e
    | lst xs =>
      simp only [Option.some.injEq] at e
      obtain ⟨vs, e2, y⟩ := ok
      exact .inl ⟨vs, .of e2, by rw [emp y]; exact e.symm⟩
abbrev tstM (m : Sl → AH → Option (D × AH)) : Sl → AH → Option (Bool × AH) := fun σ h => (m σ h).bind fun (d, h1) => (truth d h1).bind fun k => some (k, h1)
theorem tstM_imp {t : TE} (hh : ∀ σ H Q, tD X.kw m σ H Q → t σ H Q) (σ : L2.St) (H : Hp) (Q : Bool → Hp → Prop) (q : tDT X.kw (tstM m) σ H Q) : t σ H fun x H' => ∃ k, TruV X.kw x H' k ∧ Q k H' := by
  obtain ⟨ρ, σd, h, b, h', rs, rh, e, o⟩ := q
  cases ea : m σd h with
  | none => simp [tstM, ea] at e
  | some p =>
    obtain ⟨x, h1⟩ := p
    cases et : truth x h1 with
    | none => simp [tstM, ea, et] at e
    | some k =>
      simp [tstM, ea, et] at e
      obtain ⟨rfl, rfl⟩ := e
      exact hh _ _ _ ⟨ρ, σd, h, x, h1, rs, rh, ea, fun v H1 ρ1 e1 r1 q1 => ⟨k, truth_V r1 q1 et, o H1 ρ1 e1 r1⟩⟩
theorem re_not (ha : RE X a ma) : RE X (.UnaryOp .Not a pos) (fun σ h => (ma σ h).bind fun (d, h1) => (truth d h1).bind fun k => some (.bl (!k), h1)) :=
  (pe_notT ha).imp fun σ H Q ⟨ρ, σd, h, d, h', rs, rh, e, o⟩ => by
    cases ea : ma σd h with
    | none => simp [ea] at e
    | some p =>
      obtain ⟨x, h1⟩ := p
      cases et : truth x h1 with
      | none => simp [ea, et] at e
      | some k =>
        simp [ea, et] at e
        obtain ⟨rfl, rfl⟩ := e
        exact ⟨ρ, σd, h, x, h1, rs, rh, ea, fun v H1 ρ1 e1 r1 q1 => ⟨k, truth_V r1 q1 et, (o.ext e1).here r1 (DV.bl' _)⟩⟩
theorem re_one {op : BoolOp} (ha : RE X a ma) : RE X (.BoolOp op [a] pos) ma := pe_one ha
theorem re_and (ha : RE X a ma) (hb : RE X (.BoolOp .And (b :: es) pos) mb) : RE X (.BoolOp .And (a :: b :: es) pos) (fun σ h => (ma σ h).bind fun (d, h1) => (truth d h1).bind fun k => if k == true then mb σ h1 else some (d, h1)) :=
  (pe_andT ha hb).imp fun σ H Q ⟨ρ, σd, h, d, h', rs, rh, e, o⟩ => by
    cases ea : ma σd h with
    | none => simp [ea] at e
    | some p =>
      obtain ⟨x, h1⟩ := p
      cases et : truth x h1 with
      | none => simp [ea, et] at e
      | some k =>
        refine ⟨ρ, σd, h, x, h1, rs, rh, ea, fun v H1 ρ1 e1 r1 q1 => ⟨k, truth_V r1 q1 et, ?_⟩⟩
        cases k with
        | true =>
          simp [ea, et] at e
          rw [if_pos rfl]
          exact ⟨ρ1, σd, h1, d, h', rs.ext e1, r1, e, o.ext e1⟩
        | false =>
          simp [ea, et] at e
          obtain ⟨rfl, rfl⟩ := e
          rw [if_neg Bool.false_ne_true]
          exact (o.ext e1).here r1 q1
theorem re_or (ha : RE X a ma) (hb : RE X (.BoolOp .Or (b :: es) pos) mb) : RE X (.BoolOp .Or (a :: b :: es) pos) (fun σ h => (ma σ h).bind fun (d, h1) => (truth d h1).bind fun k => if k == false then mb σ h1 else some (d, h1)) :=
  (pe_orT ha hb).imp fun σ H Q ⟨ρ, σd, h, d, h', rs, rh, e, o⟩ => by
    cases ea : ma σd h with
    | none => simp [ea] at e
    | some p =>
      obtain ⟨x, h1⟩ := p
      cases et : truth x h1 with
      | none => simp [ea, et] at e
      | some k =>
        refine ⟨ρ, σd, h, x, h1, rs, rh, ea, fun v H1 ρ1 e1 r1 q1 => ⟨k, truth_V r1 q1 et, ?_⟩⟩
        cases k with
        | false =>
          simp [ea, et] at e
          rw [if_neg Bool.false_ne_true]
          exact ⟨ρ1, σd, h1, d, h', rs.ext e1, r1, e, o.ext e1⟩
        | true =>
          simp [ea, et] at e
          obtain ⟨rfl, rfl⟩ := e
          rw [if_pos rfl]
          exact (o.ext e1).here r1 q1
/-! ### tests -/
/-- a test that asks its value's truth -/
theorem rt_val (ha : RE X a ma) (he : ∀ whole, isTrue a X.env whole = (do let v ← whole; standAt a.pos; holding [v] (truthy v))) : RT X a (tstM ma) :=
  (pt_truth ha he).imp fun σ H Q q => tstM_imp (fun _ _ _ z => z) σ H Q q
theorem rt_cmp {op : Cop} (hu : X.A.units + 64 < cLine) (ha : RE X a ma) (hb : RE X b mb) (hm : behindInMarks (copP op) b = false) :
    RT X (.Compare a [copP op] [b] pos) (tstM fun σ h => (ma σ h).bind fun (x, h1) => (mb σ h1).bind fun (y, h2) => (cmpop op x y h2).bind fun z => some (.bl z, h2)) :=
  (pt_cmpR (op_cmpD hu op) ha hb hm).imp fun σ H Q ⟨ρ, σd, h, d, h', rs, rh, e, o⟩ => by
    cases ea : ma σd h with
    | none => simp [tstM, ea] at e
    | some p =>
      obtain ⟨x, h1⟩ := p
      cases eb : mb σd h1 with
      | none => simp [tstM, ea, eb] at e
      | some p =>
        obtain ⟨y, h2⟩ := p
        cases eg : cmpop op x y h2 with
        | none => simp [tstM, ea, eb, eg] at e
        | some k =>
          simp [tstM, ea, eb, eg, truth] at e
          obtain ⟨rfl, rfl⟩ := e
          exact ⟨ρ, σd, h, x, h1, rs, rh, ea, fun v H1 ρ1 e1 r1 q1 => ⟨ρ1, σd, h1, y, h2, rs.ext e1, r1, eb, fun w H2 ρ2 e2 r2 q2 => ⟨ρ2, h2, x, y, .bl k, r2, DV.ext e2 x q1, q2, by simp [eg], fun z H3 ρ3 e3 r3 q3 => ⟨k, q3.b, o H3 ρ3 (e1.trans (e2.trans e3)) r3⟩⟩⟩⟩
theorem rt_chain {op op' : Cop} {c : Expr} {mc : Sl → AH → Option (D × AH)} (hu : X.A.units + 64 < cLine) (ha : RE X a ma) (hb : RE X b mb) (hc : RE X c mc) (hm : lastMarks [copP op, copP op'] [b, c] = false) :
    RT X (.Compare a [copP op, copP op'] [b, c] pos) (tstM fun σ h => (ma σ h).bind fun (x, h1) => (mb σ h1).bind fun (y, h2) => (cmpop op x y h2).bind fun k =>
      if k then (mc σ h2).bind fun (z, h3) => (cmpop op' y z h3).bind fun k' => some (.bl k', h3) else some (.bl false, h2)) :=
  (pt_chain (op_cmpD hu op) (op_cmpD hu op') ha hb hc hm).imp fun σ H Q ⟨ρ, σd, h, d, h', rs, rh, e, o⟩ => by
    cases ea : ma σd h with
    | none => simp [tstM, ea] at e
    | some p =>
      obtain ⟨x, h1⟩ := p
      cases eb : mb σd h1 with
      | none => simp [tstM, ea, eb] at e
      | some p =>
        obtain ⟨y, h2⟩ := p
        cases eg : cmpop op x y h2 with
        | none => simp [tstM, ea, eb, eg] at e
        | some k =>
          refine ⟨ρ, σd, h, x, h1, rs, rh, ea, fun v H1 ρ1 e1 r1 q1 => ⟨ρ1, σd, h1, y, h2, rs.ext e1, r1, eb, fun w H2 ρ2 e2 r2 q2 => ⟨ρ2, h2, x, y, .bl k, r2, DV.ext e2 x q1, q2, by simp [eg], fun z H3 ρ3 e3 r3 q3 => ⟨k, q3.b, ?_⟩⟩⟩⟩
          cases k with
          | false =>
            simp [tstM, ea, eb, eg, truth] at e
            obtain ⟨rfl, rfl⟩ := e
            rw [if_neg Bool.false_ne_true]
            exact ⟨false, rfl, o H3 ρ3 (e1.trans (e2.trans e3)) r3⟩
          | true =>
            rw [if_pos rfl]
            cases ec : mc σd h2 with
            | none => simp [tstM, ea, eb, eg, ec] at e
            | some p =>
              obtain ⟨z', h3⟩ := p
              cases eg' : cmpop op' y z' h3 with
              | none => simp [tstM, ea, eb, eg, ec, eg'] at e
              | some k' =>
                simp [tstM, ea, eb, eg, ec, eg', truth] at e
                obtain ⟨rfl, rfl⟩ := e
                exact ⟨ρ3, σd, h2, z', h3, rs.ext (e1.trans (e2.trans e3)), r3, ec, fun w' H4 ρ4 e4 r4 q4 => ⟨ρ4, h3, y, z', .bl k', r4, DV.ext (e3.trans e4) y q2, q4, by simp [eg'], fun u H5 ρ5 e5 r5 q5 => ⟨k', q5.b, o H5 ρ5 (e1.trans (e2.trans (e3.trans (e4.trans e5)))) r5⟩⟩⟩
theorem rt_not (ha : RT X a (tstM ma)) : RT X (.UnaryOp .Not a pos) (tstM fun σ h => (ma σ h).bind fun (d, h1) => (truth d h1).bind fun k => some (.bl (!k), h1)) :=
  (pt_not ha).imp fun σ H Q ⟨ρ, σd, h, d, h', rs, rh, e, o⟩ => by
    cases ea : ma σd h with
    | none => simp [tstM, ea] at e
    | some p =>
      obtain ⟨x, h1⟩ := p
      cases et : truth x h1 with
      | none => simp [tstM, ea, et] at e
      | some k =>
        have tb : truth (.bl (!k)) h1 = some (!k) := rfl
        simp [tstM, ea, et, tb] at e
        obtain ⟨rfl, rfl⟩ := e
        exact ⟨ρ, σd, h, !d, h1, rs, rh, by simp [tstM, ea, et], fun H1 ρ1 e1 r1 => by show Q (!!d) H1; rw [Bool.not_not]; exact o H1 ρ1 e1 r1⟩
/-- .. of and, or: whatever stands around -/
abbrev RW (X : Cx) (e : Expr) (m : Sl → AH → Option (Bool × AH)) : Prop := PW X e (tDT X.kw m)
theorem rw_and1 (ha : RT X a (tstM ma)) : RW X (.BoolOp .And [a] pos) (tstM ma) := pw_and1 ha
theorem rw_or1 (ha : RT X a (tstM ma)) : RW X (.BoolOp .Or [a] pos) (tstM ma) := pw_or1 ha
theorem rw_and (ha : RT X a (tstM ma)) (hb : RW X (.BoolOp .And (b :: es) pos) (tstM mb)) :
    RW X (.BoolOp .And (a :: b :: es) pos) (tstM fun σ h => (ma σ h).bind fun (d, h1) => (truth d h1).bind fun k => if k == true then mb σ h1 else some (d, h1)) :=
  (pw_and ha hb).imp fun σ H Q ⟨ρ, σd, h, d, h', rs, rh, e, o⟩ => by
    cases ea : ma σd h with
    | none => simp [tstM, ea] at e
    | some p =>
      obtain ⟨x, h1⟩ := p
      cases et : truth x h1 with
      | none => simp [tstM, ea, et] at e
      | some k =>
        refine ⟨ρ, σd, h, k, h1, rs, rh, by simp [tstM, ea, et], fun H1 ρ1 e1 r1 => ?_⟩
        cases k with
        | true =>
          simp [tstM, ea, et] at e
          rw [if_pos rfl]
          exact ⟨ρ1, σd, h1, d, h', rs.ext e1, r1, by simpa [tstM] using e, fun H2 ρ2 e2 r2 => o H2 ρ2 (e1.trans e2) r2⟩
        | false =>
          simp [tstM, ea, et] at e
          obtain ⟨rfl, rfl⟩ := e
          rw [if_neg Bool.false_ne_true]
          exact o H1 ρ1 e1 r1
theorem rw_or (ha : RT X a (tstM ma)) (hb : RW X (.BoolOp .Or (b :: es) pos) (tstM mb)) :
    RW X (.BoolOp .Or (a :: b :: es) pos) (tstM fun σ h => (ma σ h).bind fun (d, h1) => (truth d h1).bind fun k => if k == false then mb σ h1 else some (d, h1)) :=
  (pw_or ha hb).imp fun σ H Q ⟨ρ, σd, h, d, h', rs, rh, e, o⟩ => by
    cases ea : ma σd h with
    | none => simp [tstM, ea] at e
    | some p =>
      obtain ⟨x, h1⟩ := p
      cases et : truth x h1 with
      | none => simp [tstM, ea, et] at e
      | some k =>
        refine ⟨ρ, σd, h, k, h1, rs, rh, by simp [tstM, ea, et], fun H1 ρ1 e1 r1 => ?_⟩
        cases k with
        | false =>
          simp [tstM, ea, et] at e
          rw [if_neg Bool.false_ne_true]
          exact ⟨ρ1, σd, h1, d, h', rs.ext e1, r1, by simpa [tstM] using e, fun H2 ρ2 e2 r2 => o H2 ρ2 (e1.trans e2) r2⟩
        | true =>
          simp [tstM, ea, et] at e
          obtain ⟨rfl, rfl⟩ := e
          rw [if_pos rfl]
          exact o H1 ρ1 e1 r1
theorem re_ite {c : Expr} {mc : Sl → AH → Option (D × AH)} (hc : RT X c (tstM mc)) (ha : RE X a ma) (hb : RE X b mb) :
    RE X (.IfExp c a b pos) (fun σ h => (mc σ h).bind fun (d, h1) => (truth d h1).bind fun k => if k then ma σ h1 else mb σ h1) :=
  (pe_ifExp hc ha hb).imp fun σ H Q ⟨ρ, σd, h, d, h', rs, rh, e, o⟩ => by
    cases ea : mc σd h with
    | none => simp [ea] at e
    | some p =>
      obtain ⟨x, h1⟩ := p
      cases et : truth x h1 with
      | none => simp [ea, et] at e
      | some k =>
        refine ⟨ρ, σd, h, k, h1, rs, rh, by simp [tstM, ea, et], fun H1 ρ1 e1 r1 => ?_⟩
        cases k with
        | true =>
          simp [ea, et] at e
          rw [if_pos rfl]
          exact ⟨ρ1, σd, h1, d, h', rs.ext e1, r1, e, o.ext e1⟩
        | false =>
          simp [ea, et] at e
          rw [if_neg Bool.false_ne_true]
          exact ⟨ρ1, σd, h1, d, h', rs.ext e1, r1, e, o.ext e1⟩
/-! ### subscripts -/
theorem atI_place {xs : List V} {k : Int} {j : Nat} {v : V} (e : place xs.length k = some j) (h : xs[j]? = some v) : atI xs k = some v := by
  have e' : ixN xs.length k = some j := e
  unfold atI
  rw [e', Option.bind_some, h]
theorem ix_D : IxR X (rB X.kw index) := by
  intro value slice pins s σ H x y v u Q I rx ry ⟨ρ, h, a, b, d, rh, qa, qb, e, o⟩ hsub
  cases b with
  | int k =>
    simp only [index] at e
    cases ei : items a h with
    | none => simp [ei] at e
    | some ds =>
      cases ej : place ds.length k with
      | none => simp [ei, ej] at e
      | some j =>
        simp only [ei, ej, Option.bind_some] at e
        obtain ⟨p, vs, rfl, sq, qs⟩ := items_sq rh qa ei
        cases qb.i
        obtain ⟨w, ew, qw⟩ := qs.get e
        have ea : atI vs k = some w := atI_place (by rw [← qs.length]; exact ej) ew
        rcases sq with sq | sq
        · exact ix_seq value slice pins s σ H _ _ v u Q I rx ry (.inl ⟨p, vs, k, w, rfl, rfl, sq, ea, o.here rh qw⟩) hsub
        · exact ix_seq value slice pins s σ H _ _ v u Q I rx ry (.inr (.inl ⟨p, vs, k, w, rfl, rfl, sq, ea, o.here rh qw⟩)) hsub
  | _ => simp [index] at e
theorem re_idx (hp : plainE b = true) (ha : RE X a ma) (hb : RE X b mb) : RE X (.Subscript a b pos) (fun σ h => (ma σ h).bind fun (x, h1) => (mb σ h1).bind fun (y, h2) => (index x y h2).bind fun z => some (z, h2)) :=
  (pe_ix ix_D ha hb (plain_ix hp)).imp fun σ H Q q => tOp_imp σ H Q q
theorem ro_none : RO X none (fun _ h => some (none, h)) := po_none.imp fun σ H Q ⟨ρ, σd, h, b, h', rs, rh, e, o⟩ => by
  simp only [Option.some.injEq, Prod.mk.injEq] at e
  obtain ⟨rfl, rfl⟩ := e
  exact o H ρ (Ext.refl _ _) rh
theorem ro_some (ha : RE X a ma) : RO X (some a) (fun σ h => (ma σ h).bind fun (d, h1) => match d with | .int i => some (some i, h1) | _ => none) := (po_some ha).imp fun σ H Q ⟨ρ, σd, h, b, h', rs, rh, e, o⟩ => by
  cases ea : ma σd h with
  | none => simp [ea] at e
  | some p =>
    obtain ⟨x, h1⟩ := p
    cases x with
    | int i =>
      simp [ea] at e
      obtain ⟨rfl, rfl⟩ := e
      exact ⟨ρ, σd, h, _, h1, rs, rh, ea, fun v H1 ρ1 e1 r1 q1 => ⟨i, q1.i, o H1 ρ1 e1 r1⟩⟩
    | _ => simp [ea] at e
theorem cut_V {K : Kw} {ρ : Rho} {H : Hp} {ds : List D} {vs : List V} (q : DVs K ρ H ds vs) (lo hi : Option Int) : DVs K ρ H (cut ds lo hi) (cutV vs lo hi) := by
  have hs : ∀ n d o, bnd n d o = HT.sIx n d o := fun n d o => by cases o <;> rfl
  unfold cut cutV
  rw [q.length, hs, hs]
  exact (q.drop _).take _
variable {mo mo' : Sl → AH → Option (Option Int × AH)} {lo hi : Option Expr} {p2 : Pos}
theorem re_slc (ha : RE X a ma) (hl : RO X lo mo) (hh : RO X hi mo') :
    RE X (.Subscript a (.Slice lo hi none p2) pos) (fun σ h => (ma σ h).bind fun (x, h1) => (mo σ h1).bind fun (l, h2) => (mo' σ h2).bind fun (u, h3) => match x with
      | .tup xs => some (.tup (cut xs l u), h3)
      | _ => none) :=
  (pe_slice sl_tupA ha hl hh).imp fun σ H Q ⟨ρ, σd, h, d, h', rs, rh, e, o⟩ => by
    cases ea : ma σd h with
    | none => simp [ea] at e
    | some p =>
      obtain ⟨x, h1⟩ := p
      cases eb : mo σd h1 with
      | none => simp [ea, eb] at e
      | some p =>
        obtain ⟨l, h2⟩ := p
        cases ec : mo' σd h2 with
        | none => simp [ea, eb, ec] at e
        | some p =>
          obtain ⟨u, h3⟩ := p
          cases x with
          | tup xs =>
            simp [ea, eb, ec] at e
            obtain ⟨rfl, rfl⟩ := e
            refine ⟨ρ, σd, h, _, h1, rs, rh, ea, fun v H1 ρ1 e1 r1 q1 => ⟨ρ1, σd, h1, l, h2, rs.ext e1, r1, eb, fun H2 ρ2 e2 r2 => ⟨ρ2, σd, h2, u, h3, rs.ext (e1.trans e2), r2, ec, fun H3 ρ3 e3 r3 => ?_⟩⟩⟩
            obtain ⟨p, vs, rfl, z, y⟩ := (DV.ext (e2.trans e3) _ q1).t
            have o3 := o.ext (e1.trans (e2.trans e3))
            refine ⟨p, vs, rfl, z.sq, fun ew => o3.here r3 ?_, o3.tup r3 (cut_V y l u)⟩
            simp only [DV]
            exact ⟨p, vs, rfl, z, by have := cut_V (lo := l) (hi := u) y; rw [ew] at this; exact this⟩
          | _ => simp [ea, eb, ec] at e
theorem rf_cut (ha : RE X a ma) (hl : RO X lo mo) (hh : RO X hi mo') :
    RF X (.Subscript a (.Slice lo hi none p2) pos) (fun σ h => (ma σ h).bind fun (x, h1) => (mo σ h1).bind fun (l, h2) => (mo' σ h2).bind fun (u, h3) => (litems x h3).bind fun xs => some (cut xs l u, h3)) :=
  (pe_slice sl_list ha hl hh).imp fun σ H Q ⟨ρ, σd, h, d, h', rs, rh, e, o⟩ => by
    cases ea : ma σd h with
    | none => simp [ea] at e
    | some p =>
      obtain ⟨x, h1⟩ := p
      cases eb : mo σd h1 with
      | none => simp [ea, eb] at e
      | some p =>
        obtain ⟨l, h2⟩ := p
        cases ec : mo' σd h2 with
        | none => simp [ea, eb, ec] at e
        | some p =>
          obtain ⟨u, h3⟩ := p
          cases ei : litems x h3 with
          | none => simp [ea, eb, ec, ei] at e
          | some xs =>
            simp [ea, eb, ec, ei] at e
            obtain ⟨rfl, rfl⟩ := e
            refine ⟨ρ, σd, h, _, h1, rs, rh, ea, fun v H1 ρ1 e1 r1 q1 => ⟨ρ1, σd, h1, l, h2, rs.ext e1, r1, eb, fun H2 ρ2 e2 r2 => ⟨ρ2, σd, h2, u, h3, rs.ext (e1.trans e2), r2, ec, fun H3 ρ3 e3 r3 => ?_⟩⟩⟩
            obtain ⟨p, vs, rfl, z, y⟩ := litems_sq r3 (DV.ext (e2.trans e3) _ q1) ei
            exact ⟨p, vs, rfl, z, fun p n => o p _ H3 ρ3 (e1.trans (e2.trans e3)) r3 n (cut_V y l u)⟩
theorem rf_rev {k : Nat} {p1 p3 : Pos} (ha : RE X a ma) : RF X (.Subscript a (.Slice none none (some (.UnaryOp .USub (.Constant (.int 1) k p1) p2)) p3) pos) (fun σ h => (ma σ h).bind fun (x, h1) => (litems x h1).bind fun xs => some (xs.reverse, h1)) :=
  (pe_revL ha).imp fun σ H Q ⟨ρ, σd, h, d, h', rs, rh, e, o⟩ => by
    cases ea : ma σd h with
    | none => simp [ea] at e
    | some p =>
      obtain ⟨x, h1⟩ := p
      cases ei : litems x h1 with
      | none => simp [ea, ei] at e
      | some xs =>
        simp [ea, ei] at e
        obtain ⟨rfl, rfl⟩ := e
        refine ⟨ρ, σd, h, _, h1, rs, rh, ea, fun v H1 ρ1 e1 r1 q1 => ?_⟩
        obtain ⟨p, vs, rfl, z, y⟩ := litems_sq r1 q1 ei
        exact ⟨p, vs, rfl, z, fun p n => o p _ H1 ρ1 e1 r1 n y.reverse⟩
end
end PyD

/-! PyD4: calls, built-ins, new lists, by data. -/
namespace PyD
open PySem PySem.Spec PyProof.Rows L2

/-- a def's promise by data -/
def spD (K : Kw) (n : Nat) (φ : Fun) : Sp := fun vs H Q _ => vs.length = n ∧ ∃ ρ h ds d h', RepH K ρ H h ∧ DVs K ρ H ds vs ∧ φ ds h = some (d, h') ∧ Out K ρ H d h' Q

section
variable {X : Cx} {e a b : Expr} {es : List Expr} {pos p : Pos} {m ma mb : Sl → AH → Option (D × AH)} {ms : Sl → AH → Option (List D × AH)}
theorem re_call {k f : Nat} {fa : Addr} {fd : FuncData} {ps : List Str} {n : Nat} {φ : Fun} {x : Str} (F : FnOk X.prog X.w X.kw X.mg X.base CX0 k fa fd ps (spD X.kw n φ)) (hr : Room k X.A) (hg : Gl X x) (hm : X.mg x = some (.ref fa))
    (hk : PySem.W.keepIn X.kw (.ref fa) = true) (hb : Binds X.kw fd ps []) (ha : RA X es ms) (hp : es.all plainE = true) (hn : es.length = n) (hl : ∀ σ h ds h', ms σ h = some (ds, h') → ds.length = es.length)
    (hdb : (x == ("__debug__" : Str)) = false) (hne : es ≠ []) : RE X (.Call (.Name x p) es [] pos) (fun σ h => (ms σ h).bind fun (ds, h1) => callC φ ds h1) := by
  have go : ∀ σ H Q, tD X.kw (fun σ h => (ms σ h).bind fun (ds, h1) => callC φ ds h1) σ H Q → tCall (spD X.kw n φ) [] E0 (tDs X.kw ms) σ H Q := by
    intro σ H Q ⟨ρ, σd, h, d, h', rs, rh, e, o⟩
    cases ea : ms σd h with
    | none => simp [ea] at e
    | some p =>
      obtain ⟨ds, h1⟩ := p
      simp only [ea, Option.bind_some] at e
      refine ⟨ρ, σd, h, ds, h1, rs, rh, ea, fun vs H1 ρ1 e1 r1 q1 => ⟨?_, callC_ok r1 ?_ e (o.ext e1)⟩⟩
      · rw [List.append_nil, ← q1.length, hl _ _ _ _ ea, hn]
      · rw [List.append_nil]; exact q1
  cases es with
  | nil => exact absurd rfl hne
  | cons e0 er =>
    rw [List.all_cons, Bool.and_eq_true] at hp
    exact (pe_call F hr hg hm hk hb .nil pass0 ha hdb (star_cons hp.1 _ _) (star_any _ _ hp.2)).imp go
theorem re_call0 {k f : Nat} {fa : Addr} {fd : FuncData} {ps : List Str} {φ : Fun} {x : Str} (F : FnOk X.prog X.w X.kw X.mg X.base CX0 k fa fd ps (spD X.kw 0 φ)) (hr : Room k X.A) (hg : Gl X x) (hm : X.mg x = some (.ref fa))
    (hk : PySem.W.keepIn X.kw (.ref fa) = true) (hb : Binds X.kw fd ps []) (hdb : (x == ("__debug__" : Str)) = false) : RE X (.Call (.Name x p) [] [] pos) (fun σ h => callC φ [] h) :=
  (pe_call0 (p := p) (pos := pos) F hr hg hm hk hb .nil pass0 hdb).imp fun σ H Q ⟨ρ, σd, h, d, h', rs, rh, e, o⟩ => ⟨rfl, callC_ok rh .nil e o⟩

/-- positional values, then keywords in the parameters' order -/
def gJ {α : Type} (j : Nat) (us ws : List α) : List α := if us.length = j then us ++ ws else []
theorem gJ_rel {j : Nat} {vs zs : List V} {us ws : List Value} (r : Vals vs us) (q : Vals zs ws) : Vals (gJ j vs zs) (gJ j us ws) := by
  unfold gJ
  rw [r.length]
  split
  · exact r.append q
  · exact .nil
theorem re_callK {k f j : Nat} {fa : Addr} {fd : FuncData} {ps ks : List Str} {n : Nat} {φ : Fun} {x : Str} {kws : List Keyword} {mk : Sl → AH → Option (List D × AH)} (F : FnOk X.prog X.w X.kw X.mg X.base CX0 k fa fd ps (spD X.kw n φ)) (hr : Room k X.A) (hg : Gl X x) (hm : X.mg x = some (.ref fa))
    (hk : PySem.W.keepIn X.kw (.ref fa) = true) (hb : KBinds X.kw fd ps ks (gJ j) (gJ j)) (ha : RA X es ms) (hkw : PK X kws (tDs X.kw mk)) (hp : es.all plainE = true) (hn : es.length + kws.length = n) (hj : es.length = j) (hl : ∀ σ h ds h', ms σ h = some (ds, h') → ds.length = es.length) (hl2 : ∀ σ h ds h', mk σ h = some (ds, h') → ds.length = kws.length)
    (hdb : (x == ("__debug__" : Str)) = false) (hne : es ≠ []) (hsome : kws.all (fun k => k.arg.isSome) = true) (hks : kws.filterMap (·.arg) = ks) : RE X (.Call (.Name x p) es kws pos) (fun σ h => (ms σ h).bind fun (ds, h1) => (mk σ h1).bind fun (es, h2) => callC φ (ds ++ es) h2) := by
  have go : ∀ σ H Q, tD X.kw (fun σ h => (ms σ h).bind fun (ds, h1) => (mk σ h1).bind fun (es, h2) => callC φ (ds ++ es) h2) σ H Q → tCallK (spD X.kw n φ) (gJ j) E0 (tDs X.kw ms) (tDs X.kw mk) σ H Q := by
    intro σ H Q ⟨ρ, σd, h, d, h', rs, rh, e, o⟩
    cases ea : ms σd h with
    | none => simp [ea] at e
    | some p =>
      obtain ⟨ds, h1⟩ := p
      cases eb : mk σd h1 with
      | none => simp [ea, eb] at e
      | some p =>
        obtain ⟨ds2, h2⟩ := p
        simp only [ea, eb, Option.bind_some] at e
        refine ⟨ρ, σd, h, ds, h1, rs, rh, ea, fun vs H1 ρ1 e1 r1 q1 => ⟨ρ1, σd, h1, ds2, h2, rs.ext e1, r1, eb, fun zs H2 ρ2 e2 r2 q2 => ?_⟩⟩
        have l1 : vs.length = j := by rw [← q1.length, hl _ _ _ _ ea, hj]
        have eg : gJ j vs zs = vs ++ zs := by unfold gJ; rw [if_pos l1]
        show spD X.kw n φ (gJ j vs zs) H2 Q E0
        rw [eg]
        refine ⟨?_, callC_ok r2 ((DVs.ext e2 _ q1).append q2) e (o.ext (e1.trans e2))⟩
        rw [List.length_append, ← q1.length, ← q2.length, hl _ _ _ _ ea, hl2 _ _ _ _ eb, hn]
  have nm : ∀ l : List Keyword, (backToKw pos (keywordEach l X.env)).map (·.1) = l.map (·.arg) := by
    intro l
    induction l with
    | nil => rfl
    | cons a r ih =>
      obtain ⟨n, v, q⟩ := a
      have ih' : ((backToKw pos (keywordEach r X.env)).map (·.1)) = r.map (·.arg) := ih
      show n :: ((backToKw pos (keywordEach r X.env)).map (·.1)) = n :: r.map (·.arg)
      rw [ih']
  have h1 : (backToKw pos (keywordEach kws X.env)).all (·.1.isSome) = true := by
    have : (backToKw pos (keywordEach kws X.env)).all (·.1.isSome) = ((backToKw pos (keywordEach kws X.env)).map (·.1)).all (·.isSome) := by rw [List.all_map]; rfl
    rw [this, nm, List.all_map]; exact hsome
  have h2 : (backToKw pos (keywordEach kws X.env)).filterMap (·.1) = ks := by
    have : (backToKw pos (keywordEach kws X.env)).filterMap (·.1) = ((backToKw pos (keywordEach kws X.env)).map (·.1)).filterMap id := by rw [List.filterMap_map]; rfl
    rw [this, nm, List.filterMap_map]; exact hks
  have h3 : (backToKw pos (keywordEach kws X.env)).any (·.1.isNone) = false := by
    rw [List.any_eq_false]
    intro a ha
    have := List.all_eq_true.mp h1 a ha
    cases q : a.1 <;> simp_all
  cases es with
  | nil => exact absurd rfl hne
  | cons e0 er =>
    have hp0 := hp
    rw [List.all_cons, Bool.and_eq_true] at hp
    exact (pe_callK F hr hg hm hk hb pass0 ha hkw h1 h2 hdb (star_cons hp.1 _ _) (by rw [star_any _ _ hp0, h3]; rfl)).imp go
theorem re_callD {k f : Nat} {fa : Addr} {fd : FuncData} {ps : List Str} {n : Nat} {φ : Fun} {x : Str} {dfl : List D} {dvs : List V} {dus : List Value} (F : FnOk X.prog X.w X.kw X.mg X.base CX0 k fa fd ps (spD X.kw n φ)) (hr : Room k X.A) (hg : Gl X x) (hm : X.mg x = some (.ref fa))
    (hk : PySem.W.keepIn X.kw (.ref fa) = true) (hb : Binds X.kw fd ps dus) (hv : Vals dvs dus) (hd : ∀ ρ H, DVs X.kw ρ H dfl dvs) (ha : RA X es ms) (hp : es.all plainE = true) (hn : es.length + dfl.length = n) (hl : ∀ σ h ds h', ms σ h = some (ds, h') → ds.length = es.length)
    (hdb : (x == ("__debug__" : Str)) = false) (hne : es ≠ []) : RE X (.Call (.Name x p) es [] pos) (fun σ h => (ms σ h).bind fun (ds, h1) => callC φ (ds ++ dfl) h1) := by
  have go : ∀ σ H Q, tD X.kw (fun σ h => (ms σ h).bind fun (ds, h1) => callC φ (ds ++ dfl) h1) σ H Q → tCall (spD X.kw n φ) dvs E0 (tDs X.kw ms) σ H Q := by
    intro σ H Q ⟨ρ, σd, h, d, h', rs, rh, e, o⟩
    cases ea : ms σd h with
    | none => simp [ea] at e
    | some p =>
      obtain ⟨ds, h1⟩ := p
      simp only [ea, Option.bind_some] at e
      refine ⟨ρ, σd, h, ds, h1, rs, rh, ea, fun vs H1 ρ1 e1 r1 q1 => ⟨?_, callC_ok r1 (q1.append (hd _ _)) e (o.ext e1)⟩⟩
      rw [List.length_append, ← q1.length, hl _ _ _ _ ea, ← (hd ρ1 H1).length, hn]
  cases es with
  | nil => exact absurd rfl hne
  | cons e0 er =>
    rw [List.all_cons, Bool.and_eq_true] at hp
    exact (pe_call F hr hg hm hk hb hv pass0 ha hdb (star_cons hp.1 _ _) (star_any _ _ hp.2)).imp go

/-! ### built-ins -/
def rL (K : Kw) (g : List D → AH → Option D) : List V → Hp → VK → Prop := fun vs H Q =>
  ∃ ρ h ds d, RepH K ρ H h ∧ DVs K ρ H ds vs ∧ g ds h = some d ∧ Out K ρ H d h Q
theorem ds1 {K : Kw} {ρ : Rho} {H : Hp} {d : D} {vs : List V} (q : DVs K ρ H [d] vs) : ∃ v, vs = [v] ∧ DV K ρ H d v := by
  simp only [DVs] at q
  obtain ⟨v, r, rfl, q1, rfl⟩ := q
  exact ⟨v, rfl, q1⟩
theorem ds2 {K : Kw} {ρ : Rho} {H : Hp} {d d' : D} {vs : List V} (q : DVs K ρ H [d, d'] vs) : ∃ v v', vs = [v, v'] ∧ DV K ρ H d v ∧ DV K ρ H d' v' := by
  simp only [DVs] at q
  obtain ⟨v, r, rfl, q1, v', r', rfl, q2, rfl⟩ := q
  exact ⟨v, v', rfl, q1, q2⟩
theorem c_len : CallR X (.builtin "len") (rL X.kw (bltf .len)) := by
  intro pins s σ H xs us Q I r ⟨ρ, h, ds, d, rh, qs, e, o⟩
  match ds, e, qs with
  | [a], e, qs =>
    obtain ⟨v, rfl, q⟩ := ds1 qs
    by_cases hs : ∃ s, a = .str s
    · obtain ⟨s0, rfl⟩ := hs
      simp only [bltf] at e
      split at e
      case isFalse => cases e
      rename_i hl
      cases e
      cases q.s
      refine call_len pins s σ H _ us Q I r ⟨_, s0.length, rfl, ⟨?_, (PySem.ofString_length s0).symm⟩, o.here rh (DV.int' _)⟩
      rw [PySem.ofString_length, lim_eq]; exact hl
    have e : (items a h).map (fun xs => D.int xs.length) = some d := by
      cases a with
      | str s0 => exact absurd ⟨s0, rfl⟩ hs
      | _ => exact e
    cases ei : items a h with
    | none => simp [ei] at e
    | some xs =>
      simp only [ei, Option.map_some, Option.some.injEq] at e; subst e
      obtain ⟨p, vs, rfl, sq, qs'⟩ := items_sq rh q ei
      exact call_len_seq pins s σ H _ us Q I r ⟨p, vs, rfl, sq, by rw [← qs'.length]; exact o.here rh (DV.int' _)⟩
  | [], e, _ => simp [bltf] at e
  | _ :: _ :: _, e, _ => simp [bltf] at e
theorem c_abs : CallR X (.builtin "abs") (rL X.kw (bltf .abs)) := by
  intro pins s σ H xs us Q I r ⟨ρ, h, ds, d, rh, qs, e, o⟩
  match ds, e, qs with
  | [.int i], e, qs =>
    simp only [bltf, Option.some.injEq] at e; subst e
    obtain ⟨v, rfl, q⟩ := ds1 qs
    cases q.i
    exact call_abs pins s σ H _ us Q I r ⟨i, rfl, o.here rh (DV.int' _)⟩
  | [], e, _ => simp [bltf] at e
  | [.non], e, _ => simp [bltf] at e
  | [.bl _], e, _ => simp [bltf] at e
  | [.str _], e, _ => simp [bltf] at e
  | [.tup _], e, _ => simp [bltf] at e
  | [.lst _], e, _ => simp [bltf] at e
  | [.rol _], e, _ => simp [bltf] at e
  | [.ref _], e, _ => simp [bltf] at e
  | _ :: _ :: _, e, _ => simp [bltf] at e
theorem c_int : CallR X (.type "int") (rL X.kw (bltf .int)) := by
  intro pins s σ H xs us Q I r ⟨ρ, h, ds, d, rh, qs, e, o⟩
  match ds, e, qs with
  | [.int i], e, qs =>
    simp only [bltf, Option.some.injEq] at e; subst e
    obtain ⟨v, rfl, q⟩ := ds1 qs
    cases q.i
    exact call_int1 pins s σ H _ us Q I r (.inl ⟨i, rfl, o.here rh (DV.int' _)⟩)
  | [.bl i], e, qs =>
    simp only [bltf, Option.some.injEq] at e; subst e
    obtain ⟨v, rfl, q⟩ := ds1 qs
    cases q.b
    exact call_int1 pins s σ H _ us Q I r (.inr ⟨i, rfl, o.here rh (DV.int' _)⟩)
  | [], e, _ => simp [bltf] at e
  | [.non], e, _ => simp [bltf] at e
  | [.str _], e, _ => simp [bltf] at e
  | [.tup _], e, _ => simp [bltf] at e
  | [.lst _], e, _ => simp [bltf] at e
  | [.rol _], e, _ => simp [bltf] at e
  | [.ref _], e, _ => simp [bltf] at e
  | _ :: _ :: _, e, _ => simp [bltf] at e
theorem c_bool : CallR X (.type "bool") (rL X.kw (bltf .bool)) := by
  intro pins s σ H xs us Q I r ⟨ρ, h, ds, d, rh, qs, e, o⟩
  match ds, e, qs with
  | [.bl i], e, qs =>
    simp only [bltf, Option.some.injEq] at e; subst e
    obtain ⟨v, rfl, q⟩ := ds1 qs
    cases q.b
    exact call_bool1 pins s σ H _ us Q I r (.inr ⟨i, rfl, o.here rh (DV.bl' _)⟩)
  | [], e, _ => simp [bltf] at e
  | [.int _], e, _ => simp [bltf] at e
  | [.non], e, _ => simp [bltf] at e
  | [.str _], e, _ => simp [bltf] at e
  | [.tup _], e, _ => simp [bltf] at e
  | [.lst _], e, _ => simp [bltf] at e
  | [.rol _], e, _ => simp [bltf] at e
  | [.ref _], e, _ => simp [bltf] at e
  | _ :: _ :: _, e, _ => simp [bltf] at e
theorem c_str : CallR X (.type "str") (rL X.kw (bltf .str)) := by
  intro pins s σ H xs us Q I r ⟨ρ, h, ds, d, rh, qs, e, o⟩
  match ds, e, qs with
  | [.int i], e, qs =>
    simp only [bltf] at e
    split at e
    case isFalse => cases e
    rename_i hz
    simp only [Option.some.injEq] at e; subst e
    obtain ⟨v, rfl, q⟩ := ds1 qs
    cases q.i
    exact call_str_int pins s σ H _ us Q I r ⟨i, rfl, hz, o.here rh (DV.str' _)⟩
  | [], e, _ => simp [bltf] at e
  | [.non], e, _ => simp [bltf] at e
  | [.bl _], e, _ => simp [bltf] at e
  | [.str _], e, _ => simp [bltf] at e
  | [.tup _], e, _ => simp [bltf] at e
  | [.lst _], e, _ => simp [bltf] at e
  | [.rol _], e, _ => simp [bltf] at e
  | [.ref _], e, _ => simp [bltf] at e
  | _ :: _ :: _, e, _ => simp [bltf] at e
theorem c_tuple : CallR X (.type "tuple") (rL X.kw (bltf .tuple)) := by
  intro pins s σ H xs us Q I r ⟨ρ, h, ds, d, rh, qs, e, o⟩
  match ds, e, qs with
  | [a], e, qs =>
    simp only [bltf] at e
    obtain ⟨v, rfl, q⟩ := ds1 qs
    cases ei : items a h with
    | none => simp [ei] at e
    | some xs =>
      simp only [ei, Option.map_some, Option.some.injEq] at e; subst e
      obtain ⟨u, rfl, ru⟩ := vals1 r
      cases a with
      | tup ys =>
        simp only [items, Option.some.injEq] at ei; subst ei
        obtain ⟨p, vs, rfl, z, y⟩ := q.t
        exact rl_tuple pins s σ H _ u Q I ru (.inr ⟨p, vs, rfl, z.sq, o.here rh q⟩)
      | lst ys =>
        obtain ⟨p, vs, rfl, sq, qs'⟩ := litems_sq (d := .lst ys) rh q (by simpa only [items, litems] using ei)
        exact rl_tuple pins s σ H _ u Q I ru (.inl ⟨p, vs, rfl, sq, o.tup rh qs'⟩)
      | rol ys =>
        obtain ⟨p, vs, rfl, sq, qs'⟩ := litems_sq (d := .rol ys) rh q (by simpa only [items, litems] using ei)
        exact rl_tuple pins s σ H _ u Q I ru (.inl ⟨p, vs, rfl, sq, o.tup rh qs'⟩)
      | ref ys =>
        obtain ⟨p, vs, rfl, sq, qs'⟩ := litems_sq (d := .ref ys) rh q (by simpa only [items, litems] using ei)
        exact rl_tuple pins s σ H _ u Q I ru (.inl ⟨p, vs, rfl, sq, o.tup rh qs'⟩)
      | _ => simp [items] at ei
  | [], e, _ => simp [bltf] at e
  | _ :: _ :: _, e, _ => simp [bltf] at e
theorem c_min (hc : X.calm = true) : CallR X (.builtin "min") (rL X.kw (bltf .min)) := by
  intro pins s σ H xs us Q I r ⟨ρ, h, ds, d, rh, qs, e, o⟩
  have : ∃ i j, ds = [.int i, .int j] ∧ d = .int (if j < i then j else i) := by
    rcases ds with _ | ⟨a, _ | ⟨b, _ | ⟨c, r⟩⟩⟩
    · simp [bltf] at e
    · cases a <;> simp [bltf] at e
    · cases a <;> cases b <;> first | (simp only [bltf, Option.some.injEq] at e; exact ⟨_, _, rfl, e.symm⟩) | (simp [bltf] at e; done)
    · cases a <;> cases b <;> simp [bltf] at e
  obtain ⟨i, j, rfl, rfl⟩ := this
  obtain ⟨v, v', rfl, q, q'⟩ := ds2 qs
  cases q.i; cases q'.i
  exact call_min2 hc pins s σ H _ us Q I r ⟨i, j, rfl, o.here rh (DV.int' _)⟩
theorem c_max (hc : X.calm = true) : CallR X (.builtin "max") (rL X.kw (bltf .max)) := by
  intro pins s σ H xs us Q I r ⟨ρ, h, ds, d, rh, qs, e, o⟩
  have : ∃ i j, ds = [.int i, .int j] ∧ d = .int (if j > i then j else i) := by
    rcases ds with _ | ⟨a, _ | ⟨b, _ | ⟨c, r⟩⟩⟩
    · simp [bltf] at e
    · cases a <;> simp [bltf] at e
    · cases a <;> cases b <;> first | (simp only [bltf, Option.some.injEq] at e; exact ⟨_, _, rfl, e.symm⟩) | (simp [bltf] at e; done)
    · cases a <;> cases b <;> simp [bltf] at e
  obtain ⟨i, j, rfl, rfl⟩ := this
  obtain ⟨v, v', rfl, q, q'⟩ := ds2 qs
  cases q.i; cases q'.i
  exact call_max2 hc pins s σ H _ us Q I r ⟨i, j, rfl, o.here rh (DV.int' _)⟩
theorem allBool_map : ∀ {xs : List D} {bs : List Bool}, allBool xs = some bs → xs = bs.map D.bl
  | [], bs, e => by simp [allBool] at e; subst e; rfl
  | .bl b :: r, bs, e => by
    simp only [allBool] at e
    cases er : allBool r with
    | none => simp [er] at e
    | some cs =>
      simp [er] at e; subst e
      rw [allBool_map er]; rfl
  | .non :: _, _, e => by simp [allBool] at e
  | .int _ :: _, _, e => by simp [allBool] at e
  | .str _ :: _, _, e => by simp [allBool] at e
  | .tup _ :: _, _, e => by simp [allBool] at e
  | .lst _ :: _, _, e => by simp [allBool] at e
  | .rol _ :: _, _, e => by simp [allBool] at e
  | .ref _ :: _, _, e => by simp [allBool] at e
theorem bls_V {K : Kw} {ρ : Rho} {H : Hp} : ∀ {bs : List Bool} {vs : List V}, DVs K ρ H (bs.map D.bl) vs → vs = bs.map V.bl
  | [], _, q => by simpa only [List.map_nil, DVs] using q
  | b :: bs, _, q => by
    simp only [List.map_cons, DVs] at q
    obtain ⟨v, r, rfl, q1, q2⟩ := q
    rw [q1.b, bls_V q2]; rfl
theorem walk_bools {prog : Program} {w : World} {A : Around} {E : Value → Shared → Prop} {s : Shared} {t : Addr} {its : Array Value} {Q : Value → Shared → Prop} (ht : s.heap.IsTuple t its)
    (h : ∀ s2 : Shared, s2 = { s with heap := s.heap.push { cls := .type "tuple_iterator", data := .fields #[.ref t, .int 0 0] } } → (s2.heap.IsTupleIter s.heap.objs.size t 0 ∧ s2.heap.IsTuple t its) → t ≠ s.heap.objs.size → Q (.ref s.heap.objs.size) s2) : wpAny (model prog w) A (pyIter (.ref t)) Q E s := by
  have below : t < s.heap.objs.size := by obtain ⟨_, e, _⟩ := ht; exact Heap.lt_size e
  exact wpAny_pyIter_tuple ht (h _ rfl ⟨⟨_, Heap.get?_push_size _ rfl, rfl, rfl⟩, ht.push _⟩ (Nat.ne_of_lt below))
theorem allT_ok (calm : X.calm = true) : CallR X (.builtin "all") (fun zs H Q => ∃ (t : Addr) (ys : List Bool), zs = [V.ref t] ∧ SqT X.K H t (ys.map V.bl) ∧ Q (.bl (ys.all id)) H) := by
  intro pins s σ H zs us Q I rel ⟨t, ys, ez, sq, want⟩
  subst ez
  obtain ⟨vals, rv, tup, _⟩ := I.tuple sq
  rw [Vals.ref1 rel]
  have eb := rv.bls
  refine call_all_walk (walk_bools tup fun s2 es st apart => ?_)
  subst es
  refine ⟨_, _, _, _, _, _, _, rfl, Walks.tuple (A := X.A.in1) (I.ok.hd calm) _ t apart vals.toArray, st, truth_bools eb, fun h' tk same => ?_⟩
  refine ⟨.bl _, H, I.kept fun b o eo => same b o (fun mem => ?_) (Heap.get?_push_of_some _ eo), ?_, want⟩
  · rcases List.mem_cons.mp mem with e1 | mem
    · exact absurd (e1 ▸ Heap.lt_size eo) (Nat.lt_irrefl _)
    · cases mem
  · show Value.bool _ = Value.bool _
    rw [← L2.all_range, eb, List.size_toArray, List.length_map]
theorem anyT_ok (calm : X.calm = true) : CallR X (.builtin "any") (fun zs H Q => ∃ (t : Addr) (ys : List Bool), zs = [V.ref t] ∧ SqT X.K H t (ys.map V.bl) ∧ Q (.bl (ys.any id)) H) := by
  intro pins s σ H zs us Q I rel ⟨t, ys, ez, sq, want⟩
  subst ez
  obtain ⟨vals, rv, tup, _⟩ := I.tuple sq
  rw [Vals.ref1 rel]
  have eb := rv.bls
  refine call_any_walk (walk_bools tup fun s2 es st apart => ?_)
  subst es
  refine ⟨_, _, _, _, _, _, _, rfl, Walks.tuple (A := X.A.in1) (I.ok.hd calm) _ t apart vals.toArray, st, truth_bools eb, fun h' tk same => ?_⟩
  refine ⟨.bl _, H, I.kept fun b o eo => same b o (fun mem => ?_) (Heap.get?_push_of_some _ eo), ?_, want⟩
  · rcases List.mem_cons.mp mem with e1 | mem
    · exact absurd (e1 ▸ Heap.lt_size eo) (Nat.lt_irrefl _)
    · cases mem
  · show Value.bool _ = Value.bool _
    rw [← L2.any_range, eb, List.size_toArray, List.length_map]
theorem c_all (hc : X.calm = true) : CallR X (.builtin "all") (rL X.kw (bltf .all)) := by
  intro pins s σ H xs us Q I r ⟨ρ, h, ds, d, rh, qs, e, o⟩
  match ds, e, qs with
  | [a], e, qs =>
    simp only [bltf] at e
    obtain ⟨v, rfl, q⟩ := ds1 qs
    cases ei : items a h with
    | none => simp [ei] at e
    | some xs =>
      cases eb : allBool xs with
      | none => simp [ei, eb] at e
      | some bs =>
        simp [ei, eb] at e; subst e
        obtain ⟨p, vs, rfl, sq, qs'⟩ := items_sq rh q ei
        rw [allBool_map eb] at qs'
        rw [bls_V qs'] at sq
        have want : Q (.bl (bs.all id)) H := by
          have := o.here rh (DV.bl' _)
          simpa using this
        rcases sq with sq | sq
        · exact cr_all hc pins s σ H _ us Q I r ⟨p, bs, rfl, sq, want⟩
        · exact allT_ok hc pins s σ H _ us Q I r ⟨p, bs, rfl, sq, want⟩
  | [], e, _ => simp [bltf] at e
  | _ :: _ :: _, e, _ => simp [bltf] at e
theorem c_any (hc : X.calm = true) : CallR X (.builtin "any") (rL X.kw (bltf .any)) := by
  intro pins s σ H xs us Q I r ⟨ρ, h, ds, d, rh, qs, e, o⟩
  match ds, e, qs with
  | [a], e, qs =>
    simp only [bltf] at e
    obtain ⟨v, rfl, q⟩ := ds1 qs
    cases ei : items a h with
    | none => simp [ei] at e
    | some xs =>
      cases eb : allBool xs with
      | none => simp [ei, eb] at e
      | some bs =>
        simp [ei, eb] at e; subst e
        obtain ⟨p, vs, rfl, sq, qs'⟩ := items_sq rh q ei
        rw [allBool_map eb] at qs'
        rw [bls_V qs'] at sq
        have want : Q (.bl (bs.any id)) H := by
          have := o.here rh (DV.bl' _)
          simpa using this
        rcases sq with sq | sq
        · exact cr_any hc pins s σ H _ us Q I r ⟨p, bs, rfl, sq, want⟩
        · exact anyT_ok hc pins s σ H _ us Q I r ⟨p, bs, rfl, sq, want⟩
  | [], e, _ => simp [bltf] at e
  | _ :: _ :: _, e, _ => simp [bltf] at e
/-- a built-in's name, and whether it is a type -/
theorem allInt_map : ∀ {xs : List D} {ns : List Int}, allInt xs = some ns → xs = ns.map D.int
  | [], ns, e => by simp [allInt] at e; subst e; rfl
  | .int i :: r, ns, e => by
    simp only [allInt, Option.map_eq_some_iff] at e
    obtain ⟨l, e1, rfl⟩ := e
    rw [allInt_map e1]; rfl
  | .non :: _, _, e => by simp [allInt] at e
  | .bl _ :: _, _, e => by simp [allInt] at e
  | .str _ :: _, _, e => by simp [allInt] at e
  | .tup _ :: _, _, e => by simp [allInt] at e
  | .lst _ :: _, _, e => by simp [allInt] at e
  | .rol _ :: _, _, e => by simp [allInt] at e
  | .ref _ :: _, _, e => by simp [allInt] at e
theorem c_sum (hc : X.calm = true) : CallR X (.builtin "sum") (rL X.kw (bltf .sum)) := by
  intro pins s σ H xs us Q I r ⟨ρ, h, ds, d, rh, qs, e, o⟩
  match ds, e, qs with
  | [a], e, qs =>
    simp only [bltf] at e
    obtain ⟨v, rfl, q⟩ := ds1 qs
    cases ei : litems a h with
    | none => simp [ei] at e
    | some xs =>
      cases eb : allInt xs with
      | none => simp [ei, eb] at e
      | some ns =>
        simp [ei, eb] at e; subst e
        obtain ⟨p, vs, rfl, sq, qs'⟩ := litems_sq rh q ei
        rw [allInt_map eb] at qs'
        rw [qs'.ints] at sq
        exact cr_sum hc pins s σ H _ us Q I r ⟨p, ns, rfl, sq, o.here rh (DV.int' _)⟩
  | [], e, _ => simp [bltf] at e
  | _ :: _ :: _, e, _ => simp [bltf] at e
def bltN : Blt → Str × String × Bool
  | .len => ("len", "len", false) | .abs => ("abs", "abs", false) | .int => ("int", "int", true) | .min => ("min", "min", false) | .max => ("max", "max", false) | .str => ("str", "str", true)
  | .tuple => ("tuple", "tuple", true) | .all => ("all", "all", false) | .any => ("any", "any", false) | .bool => ("bool", "bool", true) | .sum => ("sum", "sum", false)
theorem tCB_imp {g : List D → AH → Option D} (σ : L2.St) (H : Hp) (Q : VK) (q : tD X.kw (fun σ h => (ms σ h).bind fun (ds, h1) => (g ds h1).bind fun z => some (z, h1)) σ H Q) : tCB (rL X.kw g) (tDs X.kw ms) σ H Q := by
  obtain ⟨ρ, σd, h, d, h', rs, rh, e, o⟩ := q
  cases ea : ms σd h with
  | none => simp [ea] at e
  | some p =>
    obtain ⟨ds, h1⟩ := p
    cases eg : g ds h1 with
    | none => simp [ea, eg] at e
    | some z =>
      simp [ea, eg] at e
      obtain ⟨rfl, rfl⟩ := e
      exact ⟨ρ, σd, h, ds, h1, rs, rh, ea, fun vs H1 ρ1 e1 r1 q1 => ⟨ρ1, h1, ds, z, r1, q1, eg, o.ext e1⟩⟩
theorem re_blt {f : Blt} (hc : X.calm = true) (hg : Gl X (bltN f).1) (hm : X.mg (bltN f).1 = none) (ha : RA X (e :: es) ms) (hp : plainE e = true) (hps : es.all plainE = true) :
    RE X (.Call (.Name (bltN f).1 p) (e :: es) [] pos) (fun σ h => (ms σ h).bind fun (ds, h1) => (bltf f ds h1).bind fun z => some (z, h1)) := by
  have s1 := star_cons hp es X.env
  have s2 := star_any pos X.env hps
  cases f with
  | len => exact (pe_callB c_len hg hm PySem.boot_len ha (by decide) (by decide) s1 s2).imp fun σ H Q q => tCB_imp σ H Q q
  | abs => exact (pe_callB c_abs hg hm (by decide +kernel) ha (by decide) (by decide) s1 s2).imp fun σ H Q q => tCB_imp σ H Q q
  | int => exact (pe_callTy c_int hg hm (by decide +kernel) ha (by decide) (by decide) s1 s2).imp fun σ H Q q => tCB_imp σ H Q q
  | min => exact (pe_callB (c_min hc) hg hm (by decide +kernel) ha (by decide) (by decide) s1 s2).imp fun σ H Q q => tCB_imp σ H Q q
  | max => exact (pe_callB (c_max hc) hg hm (by decide +kernel) ha (by decide) (by decide) s1 s2).imp fun σ H Q q => tCB_imp σ H Q q
  | str => exact (pe_callTy c_str hg hm (by decide +kernel) ha (by decide) (by decide) s1 s2).imp fun σ H Q q => tCB_imp σ H Q q
  | tuple => exact (pe_callTy c_tuple hg hm (by decide +kernel) ha (by decide) (by decide) s1 s2).imp fun σ H Q q => tCB_imp σ H Q q
  | all => exact (pe_callB (c_all hc) hg hm (by decide +kernel) ha (by decide) (by decide) s1 s2).imp fun σ H Q q => tCB_imp σ H Q q
  | any => exact (pe_callB (c_any hc) hg hm (by decide +kernel) ha (by decide) (by decide) s1 s2).imp fun σ H Q q => tCB_imp σ H Q q
  | sum => exact (pe_callB (c_sum hc) hg hm (by decide +kernel) ha (by decide) (by decide) s1 s2).imp fun σ H Q q => tCB_imp σ H Q q
  | bool => exact (pe_callTy c_bool hg hm (by decide +kernel) ha (by decide) (by decide) s1 s2).imp fun σ H Q q => tCB_imp σ H Q q
end
end PyD

/-! PyD5: isinstance, new lists, append, what is walked, comprehensions, by data. -/
namespace PyD
open PySem PySem.Spec PyProof.Rows L2

def tyN : Ty → String
  | .int => "int" | .str => "str" | .tuple => "tuple" | .bool => "bool" | .list => "list"
theorem boot_ty (t : Ty) : bootBuiltins (Str.ofString (tyN t)) = some (.type (tyN t)) := by
  cases t <;> decide +kernel
section
variable {X : Cx} {e a b : Expr} {es : List Expr} {pos p : Pos} {m ma mb : Sl → AH → Option (D × AH)} {ms : Sl → AH → Option (List D × AH)}
theorem isTy_V {K : Kw} {ρ : Rho} {H : Hp} {h : AH} {d : D} {v : V} (rh : RepH K ρ H h) (q : DV K ρ H d v) (t : Ty) {k : Bool} (e : isTyH d t h = some k) : ∃ T, TyX K H v T ∧ PySem.W.kitOne K T (.type (tyN t)) = some k := by
  have base : (∀ n, d ≠ .ref n) → isTy d t = k := fun hn => by
    cases d <;> first | (simpa [isTyH] using e) | exact absurd rfl (hn _)
  cases d with
  | non => cases q.n; exact ⟨_, .base .non, by rw [← base (fun n z => nomatch z)]; cases t <;> rfl⟩
  | bl c => cases q.b; exact ⟨_, .base (.bl c), by rw [← base (fun n z => nomatch z)]; cases t <;> rfl⟩
  | int c => cases q.i; exact ⟨_, .base (.int c), by rw [← base (fun n z => nomatch z)]; cases t <;> rfl⟩
  | str c => cases q.s; exact ⟨_, .base (.str _), by rw [← base (fun n z => nomatch z)]; cases t <;> rfl⟩
  | fn c => simp [isTyH] at e
  | tup ds =>
    obtain ⟨a, vs, rfl, z, y⟩ := q.t
    refine ⟨.type "tuple", ?_, by rw [← base (fun n z => nomatch z)]; cases t <;> rfl⟩
    rcases z with ⟨z | ⟨o, z⟩, _⟩ | ⟨o, its, n, z, c, _⟩
    · exact .base (.tup z)
    · exact .fTuple z
    · exact .kTuple z c
  | lst ds =>
    obtain ⟨a, vs, rfl, z, y⟩ := q.l
    exact ⟨_, .base (.lst z.1), by rw [← base (fun n z => nomatch z)]; cases t <;> rfl⟩
  | rol ds =>
    obtain ⟨a, vs, rfl, z, y⟩ := q.o
    refine ⟨.type "list", ?_, by rw [← base (fun n z => nomatch z)]; cases t <;> rfl⟩
    rcases z with ⟨z | ⟨o, z⟩, _⟩ | ⟨o, its, n, z, c, _⟩
    · exact .base (.lst z)
    · exact .base (.frz z)
    · exact .kList z c
  | ref n =>
    obtain ⟨a, rfl, z⟩ := q.r
    obtain ⟨o, e1, ok⟩ := rh.at' z
    simp only [isTyH, e1] at e
    cases o with
    | dct kvs => simp at e
    | ids ks => simp at e
    | lst xs =>
      obtain ⟨vs, e2, y⟩ := ok
      simp only [Option.some.injEq] at e
      exact ⟨_, .base (.lst e2), by rw [← e]; cases t <;> rfl⟩
theorem re_isi {t : Ty} {p1 p2 : Pos} (hg : Gl X "isinstance") (hm : X.mg "isinstance" = none) (hg2 : Gl X (Str.ofString (tyN t))) (hm2 : X.mg (Str.ofString (tyN t)) = none) (ha : RE X a ma) (hp : plainE a = true) :
    RE X (.Call (.Name "isinstance" p) [a, .Name (Str.ofString (tyN t)) p1] [] pos) (fun σ h => (ma σ h).bind fun (x, h1) => (isTyH x t h1).bind fun k => some (.bl k, h1)) := by
  have ht : PE X (.Name (Str.ofString (tyN t)) p1) (tC (.ty (tyN t))) := pe_bltn hg2 hm2 (boot_ty t) rfl (by cases t <;> decide) (by cases t <;> decide)
  refine (pe_callB call_isi hg hm PyProof.Rows.boot_isinstance (pa_cons ha (pa_cons ht pa_nil rfl) (star_cons hp _ _)) (by decide) (by decide) (star_cons hp _ _) (star_any _ _ (by rfl))).imp fun σ H Q ⟨ρ, σd, h, d, h', rs, rh, e, o⟩ => ?_
  cases ea : ma σd h with
  | none => simp [ea] at e
  | some p =>
    obtain ⟨x, h1⟩ := p
    simp only [ea, Option.bind_some, Option.bind_eq_some_iff, Option.some.injEq, Prod.mk.injEq] at e
    obtain ⟨k, ek, rfl, rfl⟩ := e
    refine ⟨ρ, σd, h, x, h1, rs, rh, ea, fun v H1 ρ1 e1 r1 q1 => ?_⟩
    obtain ⟨T, h2, h3⟩ := isTy_V r1 q1 t ek
    exact ⟨v, .ty (tyN t), T, _, _, rfl, .ty _, h2, h3, (o.ext e1).here r1 (DV.bl' _)⟩

/-! ### new lists -/
theorem rf_ofSeq (hg : Gl X "list") (hm : X.mg "list" = none) (ha : RE X a ma) (hp : plainE a = true) : RF X (.Call (.Name "list" p) [a] [] pos) (fun σ h => (ma σ h).bind fun (x, h1) => (items x h1).bind fun xs => some (xs, h1)) :=
  (pe_callTy call_list_of hg hm (by decide +kernel) (pa_cons ha pa_nil (star_cons hp _ _)) (by decide) (by decide) (star_cons hp _ _) rfl).imp fun σ H Q ⟨ρ, σd, h, d, h', rs, rh, e, o⟩ => by
    cases ea : ma σd h with
    | none => simp [ea] at e
    | some p =>
      obtain ⟨x, h1⟩ := p
      cases ei : items x h1 with
      | none => simp [ea, ei] at e
      | some xs =>
        simp [ea, ei] at e
        obtain ⟨rfl, rfl⟩ := e
        refine ⟨ρ, σd, h, x, h1, rs, rh, ea, fun v H1 ρ1 e1 r1 q1 => ?_⟩
        obtain ⟨p, vs, rfl, sq, qs⟩ := items_sq r1 q1 ei
        exact ⟨p, vs, rfl, sq, fun l n => o l vs H1 ρ1 e1 r1 n qs⟩
theorem rng_V {K : Kw} {ρ : Rho} {H : Hp} {i j : Int} {xs : List D} (e : rng i j = some xs) : RgOk i j ∧ DVs K ρ H xs (rgV i j) ∧ xs.length = (j - i).toNat ∧ -1000000 ≤ i ∧ j ≤ 1000000 ∧ i ≤ 1000000 ∧ -1000000 ≤ j := by
  unfold rng at e
  split at e
  case isFalse => cases e
  rename_i hz
  simp only [Option.some.injEq] at e; subst e
  refine ⟨⟨by omega, by omega, by omega, by omega, by omega⟩, ?_, by simp, hz⟩
  unfold rgV
  have : ∀ l : List Nat, DVs K ρ H (l.map fun n => D.int (i + (n : Nat))) (l.map fun n => V.int (i + (n : Nat))) := by
    intro l
    induction l with
    | nil => exact .nil
    | cons n l ih => exact .cons (DV.int' _) ih
  exact this _
theorem rf_rng1 {p1 pos1 : Pos} (hc : X.calm = true) (hg : Gl X "list") (hm : X.mg "list" = none) (hg2 : Gl X "range") (hm2 : X.mg "range" = none) (ha : RE X a ma) (hp : plainE a = true) :
    RF X (.Call (.Name "list" p) [.Call (.Name "range" p1) [a] [] pos1] [] pos) (fun σ h => (ma σ h).bind fun (x, h1) => match x with | .int i => (rng 0 i).bind fun xs => some (xs, h1) | _ => none) :=
  (pe_listRg hc hg hm (prg_1 hg2 hm2 ha (star_cons hp _ _)) rfl).imp fun σ H Q ⟨ρ, σd, h, d, h', rs, rh, e, o⟩ => by
    cases ea : ma σd h with
    | none => simp [ea] at e
    | some p =>
      obtain ⟨x, h1⟩ := p
      cases x with
      | int i =>
        simp only [ea, Option.bind_some] at e
        cases er : rng 0 i with
        | none => simp [er] at e
        | some xs =>
          simp [er] at e
          obtain ⟨rfl, rfl⟩ := e
          refine ⟨ρ, σd, h, _, h1, rs, rh, ea, fun v H1 ρ1 e1 r1 q1 => ⟨i, q1.i, ?_⟩⟩
          obtain ⟨z1, z2, _⟩ := rng_V (K := X.kw) (ρ := ρ1) (H := H1) er
          exact ⟨z1, fun q n => o q _ H1 ρ1 e1 r1 n z2⟩
      | _ => simp [ea] at e
theorem rf_rng2 {p1 pos1 : Pos} (hc : X.calm = true) (hg : Gl X "list") (hm : X.mg "list" = none) (hg2 : Gl X "range") (hm2 : X.mg "range" = none) (ha : RE X a ma) (hp : plainE a = true) (hb : RE X b mb) (hp2 : plainE b = true) :
    RF X (.Call (.Name "list" p) [.Call (.Name "range" p1) [a, b] [] pos1] [] pos) (fun σ h => (ma σ h).bind fun (x, h1) => (mb σ h1).bind fun (y, h2) => match x, y with | .int i, .int j => (rng i j).bind fun xs => some (xs, h2) | _, _ => none) :=
  (pe_listRg hc hg hm (prg_2 hg2 hm2 ha hb (star_cons hp _ _) (star_cons hp2 _ _) (star_any _ _ (by simp [hp2]))) rfl).imp fun σ H Q ⟨ρ, σd, h, d, h', rs, rh, e, o⟩ => by
    cases ea : ma σd h with
    | none => simp [ea] at e
    | some p =>
      obtain ⟨x, h1⟩ := p
      cases eb : mb σd h1 with
      | none => simp [ea, eb] at e
      | some p =>
        obtain ⟨y, h2⟩ := p
        cases x with
        | int i =>
          cases y with
          | int j =>
            simp only [ea, eb, Option.bind_some] at e
            cases er : rng i j with
            | none => simp [er] at e
            | some xs =>
              simp [er] at e
              obtain ⟨rfl, rfl⟩ := e
              refine ⟨ρ, σd, h, _, h1, rs, rh, ea, fun v H1 ρ1 e1 r1 q1 => ⟨ρ1, σd, h1, _, h2, rs.ext e1, r1, eb, fun w H2 ρ2 e2 r2 q2 => ⟨i, j, (DV.ext e2 _ q1).i, q2.i, ?_⟩⟩⟩
              obtain ⟨z1, z2, _⟩ := rng_V (K := X.kw) (ρ := ρ2) (H := H2) er
              exact ⟨z1, fun q n => o q _ H2 ρ2 (e1.trans e2) r2 n z2⟩
          | _ => simp [ea, eb] at e
        | _ => cases y <;> simp [ea, eb] at e
theorem rf_cat (ha : RE X a ma) (hb : RE X b mb) : RF X (.BinOp a .Add b pos) (fun σ h => (ma σ h).bind fun (x, h1) => (mb σ h1).bind fun (y, h2) => (mitems x h2).bind fun xs => (mitems y h2).bind fun ys => if xs.length + ys.length ≤ lim then some (xs ++ ys, h2) else none) :=
  (pe_op op_cat ha hb).imp fun σ H Q ⟨ρ, σd, h, d, h', rs, rh, e, o⟩ => by
    cases ea : ma σd h with
    | none => simp [ea] at e
    | some p =>
      obtain ⟨x, h1⟩ := p
      cases eb : mb σd h1 with
      | none => simp [ea, eb] at e
      | some p =>
        obtain ⟨y, h2⟩ := p
        cases ex : mitems x h2 with
        | none => simp [ea, eb, ex] at e
        | some xs =>
          cases ey : mitems y h2 with
          | none => simp [ea, eb, ex, ey] at e
          | some ys =>
            simp only [ea, eb, ex, ey, Option.bind_some] at e
            split at e
            case isFalse => cases e
            rename_i hz
            simp only [Option.some.injEq, Prod.mk.injEq] at e
            obtain ⟨rfl, rfl⟩ := e
            refine ⟨ρ, σd, h, _, h1, rs, rh, ea, fun v H1 ρ1 e1 r1 q1 => ⟨ρ1, σd, h1, _, h2, rs.ext e1, r1, eb, fun w H2 ρ2 e2 r2 q2 => ?_⟩⟩
            obtain ⟨l, vs, rfl, hl, yl⟩ := mitems_sq r2 (DV.ext e2 _ q1) ex
            obtain ⟨l', vs', rfl, hl', yl'⟩ := mitems_sq r2 q2 ey
            exact ⟨l, l', vs, vs', rfl, rfl, hl, hl', by rw [← yl.length, ← yl'.length, lim_eq]; exact hz, fun q n => o q _ H2 ρ2 (e1.trans e2) r2 n (yl.append yl')⟩
theorem rf_rep (ha : RE X a ma) (hb : RE X b mb) : RF X (.BinOp a .Mult b pos) (fun σ h => (ma σ h).bind fun (x, h1) => (mb σ h1).bind fun (y, h2) => match y with
    | .int k => (mitems x h2).bind fun xs => if 0 ≤ k ∧ k ≤ lim ∧ xs.length * k.toNat ≤ lim then some ((List.replicate k.toNat xs).flatten, h2) else none
    | _ => none) :=
  (pe_op op_rep ha hb).imp fun σ H Q ⟨ρ, σd, h, d, h', rs, rh, e, o⟩ => by
    cases ea : ma σd h with
    | none => simp [ea] at e
    | some p =>
      obtain ⟨x, h1⟩ := p
      cases eb : mb σd h1 with
      | none => simp [ea, eb] at e
      | some p =>
        obtain ⟨y, h2⟩ := p
        cases y with
        | int k =>
          cases ex : mitems x h2 with
          | none => simp [ea, eb, ex] at e
          | some xs =>
            simp only [ea, eb, ex, Option.bind_some] at e
            split at e
            case isFalse => cases e
            rename_i hz
            simp only [Option.some.injEq, Prod.mk.injEq] at e
            obtain ⟨rfl, rfl⟩ := e
            refine ⟨ρ, σd, h, _, h1, rs, rh, ea, fun v H1 ρ1 e1 r1 q1 => ⟨ρ1, σd, h1, _, h2, rs.ext e1, r1, eb, fun w H2 ρ2 e2 r2 q2 => ?_⟩⟩
            obtain ⟨l, vs, rfl, hl, yl⟩ := mitems_sq r2 (DV.ext e2 _ q1) ex
            have hk : k ≤ 16777216 := hz.2.1
            exact ⟨l, k, vs, rfl, q2.i, hl, by omega, by omega, by rw [← yl.length, lim_eq]; exact hz.2.2, fun q n => o q _ H2 ρ2 (e1.trans e2) r2 n (yl.rep _)⟩
        | _ => simp [ea, eb] at e
/-! ### l.append(e) -/
theorem re_app {apos : Pos} (ha : RE X a ma) (hb : RE X b mb) (hp : plainE b = true) (hbase : attributeBase a "append" X.env (eval a X.env) = eval a X.env) (hline : (apos.endLine == pos.line) = true) :
    RE X (.Call (.Attribute a "append" apos) [b] [] pos) (fun σ h => (ma σ h).bind fun (x, h1) => (litems x h1).bind fun _ => (mb σ h1).bind fun (y, h2) => match x with
      | .ref n => (match h2[n]? with
        | some (.lst ds) => if ds.length < lim then some (.non, h2.set n (.lst (ds ++ [y]))) else none
        | _ => none)
      | _ => none) := by
  have hs := star_cons hp [] X.env
  refine (pe_bm (T := "list") PySem.F.plainAttrs_list PySem.F.slot_list_append PySem.F.type_list_append mt_append ha (pa_cons hb pa_nil hs) hbase ?_ hline hs rfl).imp fun σ H Q ⟨ρ, σd, h, d, h', rs, rh, e, o⟩ => ?_
  · rw [hs]; rfl
  · cases ea : ma σd h with
    | none => simp [ea] at e
    | some p =>
      obtain ⟨x, h1⟩ := p
      cases el : litems x h1 with
      | none => simp [ea, el] at e
      | some l0 =>
      cases eb : mb σd h1 with
      | none => simp [ea, el, eb] at e
      | some p =>
        obtain ⟨y, h2⟩ := p
        cases x with
        | ref n =>
          cases en : h2[n]? with
          | none => simp [ea, el, eb, en] at e
          | some ob =>
            cases ob with
            | dct kvs => simp [ea, el, eb, en] at e
            | ids ks => simp [ea, el, eb, en] at e
            | lst ds =>
              simp only [ea, el, eb, en, Option.bind_some] at e
              split at e
              case isFalse => cases e
              rename_i hz
              simp only [Option.some.injEq, Prod.mk.injEq] at e
              obtain ⟨rfl, rfl⟩ := e
              refine ⟨ρ, σd, h, _, h1, rs, rh, ea, fun v H1 ρ1 e1 r1 q1 => ?_⟩
              obtain ⟨l, rfl, hl⟩ := q1.r
              obtain ⟨o1, e3, ok1⟩ := r1.at' hl
              refine ⟨?_, ρ1, σd, h1, y, h2, rs.ext e1, r1, eb, fun w H2 ρ2 e2 r2 q2 => ?_⟩
              · cases o1 with
                | dct kvs => simp [litems, e3] at el
                | ids ks => simp [litems, e3] at el
                | lst xs =>
                  obtain ⟨vs, e4, _⟩ := ok1
                  exact .inl ⟨rfl, vs, .of e4⟩
              · have hl2 := e2.get hl
                obtain ⟨o2, e5, ok2⟩ := r2.at' hl2
                rw [en] at e5; cases e5
                obtain ⟨vs, e6, yl⟩ := ok2
                refine ⟨l, vs, w, rfl, rfl, e6, by rw [← yl.length, lim_eq]; exact hz, ?_⟩
                exact o _ _ ρ2 ((e1.trans e2).trans (Ext.mut (List.mem_of_getElem? hl2))) (r2.set hl2 (yl.append (.one q2))) DV.non'
        | _ => simp [ea, el, eb] at e
theorem re_ext {apos : Pos} (ha : RE X a ma) (hb : RE X b mb) (hp : plainE b = true) (hbase : attributeBase a "extend" X.env (eval a X.env) = eval a X.env) (hline : (apos.endLine == pos.line) = true) :
    RE X (.Call (.Attribute a "extend" apos) [b] [] pos) (fun σ h => (ma σ h).bind fun (x, h1) => (litems x h1).bind fun _ => (mb σ h1).bind fun (y, h2) => (mitems y h2).bind fun ys => match x with
      | .ref n => (match h2[n]? with
        | some (.lst ds) => if ds.length + ys.length ≤ lim then some (.non, h2.set n (.lst (ds ++ ys))) else none
        | _ => none)
      | _ => none) := by
  have hs := star_cons hp [] X.env
  refine (pe_bm (T := "list") PySem.F.plainAttrs_list PySem.F.slot_list_extend PySem.F.type_list_extend mt_extend ha (pa_cons hb pa_nil hs) hbase ?_ hline hs rfl).imp fun σ H Q ⟨ρ, σd, h, d, h', rs, rh, e, o⟩ => ?_
  · rw [hs]; rfl
  · cases ea : ma σd h with
    | none => simp [ea] at e
    | some p =>
      obtain ⟨x, h1⟩ := p
      cases el : litems x h1 with
      | none => simp [ea, el] at e
      | some l0 =>
      cases eb : mb σd h1 with
      | none => simp [ea, el, eb] at e
      | some p =>
        obtain ⟨y, h2⟩ := p
        cases em : mitems y h2 with
        | none => simp [ea, el, eb, em] at e
        | some ys =>
        cases x with
        | ref n =>
          cases en : h2[n]? with
          | none => simp [ea, el, eb, em, en] at e
          | some ob =>
            cases ob with
            | dct kvs => simp [ea, el, eb, em, en] at e
            | ids ks => simp [ea, el, eb, em, en] at e
            | lst ds =>
              simp only [ea, el, eb, em, en, Option.bind_some] at e
              split at e
              case isFalse => cases e
              rename_i hz
              simp only [Option.some.injEq, Prod.mk.injEq] at e
              obtain ⟨rfl, rfl⟩ := e
              refine ⟨ρ, σd, h, _, h1, rs, rh, ea, fun v H1 ρ1 e1 r1 q1 => ?_⟩
              obtain ⟨l, rfl, hl⟩ := q1.r
              obtain ⟨o1, e3, ok1⟩ := r1.at' hl
              refine ⟨?_, ρ1, σd, h1, y, h2, rs.ext e1, r1, eb, fun w H2 ρ2 e2 r2 q2 => ?_⟩
              · cases o1 with
                | dct kvs => simp [litems, e3] at el
                | ids ks => simp [litems, e3] at el
                | lst xs =>
                  obtain ⟨vs, e4, _⟩ := ok1
                  exact .inl ⟨rfl, vs, .of e4⟩
              · have hl2 := e2.get hl
                obtain ⟨o2, e5, ok2⟩ := r2.at' hl2
                rw [en] at e5; cases e5
                obtain ⟨vs, e6, yl⟩ := ok2
                obtain ⟨bb, zs, rfl, hbb, zl⟩ := mitems_sq r2 q2 em
                refine ⟨l, bb, vs, zs, rfl, rfl, e6, hbb, by rw [← yl.length, ← zl.length, lim_eq]; exact hz, ?_⟩
                exact o _ _ ρ2 ((e1.trans e2).trans (Ext.mut (List.mem_of_getElem? hl2))) (r2.set hl2 (yl.append zl)) DV.non'
        | _ => simp [ea, el, eb, em] at e
end
end PyD

/-! PyE1: enumerate over a tuple. -/
namespace PyD
open PySem PySem.Spec PyProof.Rows L2

theorem meets_enumB {v : Value} {o : Obj} {H : Heap → Prop} (B : Begins v o H) :
    Meets (Builtin.«enumerate.__new__» ⟨[.type "enumerate", v], []⟩) (fun _ R s => H s.heap ∧
      R (.ok (.ret (.ref (s.heap.push o).objs.size))) { s with heap := (s.heap.push o).push { cls := .type "enumerate", data := .fields #[.none, .bool false, .ref s.heap.objs.size, rawInt 0, .none, .none] } }) :=
  .of_wp fun prog w A R s h => by
    obtain ⟨hp, g, d, tk, os⟩ := s; obtain ⟨h1, h⟩ := h
    have hsub := sub_enumerate
    have q1 : ∀ {A' : Around} {E : Value → Shared → Prop} {Q : Value → Shared → Prop}, Q (.ref hp.objs.size) ⟨hp.push o, g, d, tk, os⟩ → wpAny (model prog w) A' (pyIter v) Q E ⟨hp, g, d, tk, os⟩ :=
      fun q => B.iter prog w _ _ ⟨hp, g, d, tk, os⟩ _ h1 q
    wp_walk using q1
    refine wpAny_stack_any fun st => wpAny_pure ?_
    split
    · rename_i c _ _ _ _ _
      cases (c == Value.type "enumerate")
      · wp_walk using q1
        exact ⟨_, rfl, h⟩
      · wp_walk using q1
        exact ⟨_, rfl, h⟩
    · wp_walk using q1
      exact ⟨_, rfl, h⟩
theorem call_enumB {prog : Program} {w : World} {A : Around} {E : Value → Shared → Prop} {s : Shared} {v : Value} {o : Obj} {H : Heap → Prop} {Q : Value → Shared → Prop} (B : Begins v o H) (h1 : H s.heap)
    (h : ∀ h', IsEnum h' (s.heap.objs.size + 1) s.heap.objs.size 0 .none → h'.get? s.heap.objs.size = some o → h'.objs.size = s.heap.objs.size + 2 →
      (∀ b o, s.heap.get? b = some o → h'.get? b = some o) → Q (.ref (s.heap.objs.size + 1)) { s with heap := h' }) :
    wpAny (model prog w) A (call (.type "enumerate") [v]) Q E s := by
  refine callType_new F.called_enumerate (by decide) (F.typeCall_enumerate_1 _) (F.newCall_enumerate_1 _) (fun obj => F.args_object_init_2 obj _) F.entry_enumerate_new (meets_enumB B) ⟨h1, ?_⟩
  have hz : (s.heap.push o).objs.size = s.heap.objs.size + 1 := Heap.size_push ..
  show _ ∧ _
  rw [hz]
  have he : IsEnum ((s.heap.push o).push { cls := .type "enumerate", data := .fields #[.none, .bool false, .ref s.heap.objs.size, rawInt 0, .none, .none] }) (s.heap.objs.size + 1) s.heap.objs.size 0 .none := by
    have := Heap.get?_push_size (s.heap.push o) (o := { cls := .type "enumerate", data := .fields #[.none, .bool false, .ref s.heap.objs.size, rawInt 0, .none, .none] }) rfl
    rw [hz] at this; exact this
  refine ⟨⟨_, he, rfl⟩, h _ he (Heap.get?_push_of_some _ (Heap.get?_push_size _ B.free)) (by rw [Heap.size_push, hz]) fun b o x => Heap.get?_push_of_some _ (Heap.get?_push_of_some _ x)⟩

theorem enumT_end {prog : Program} {w : World} {A : Around} {E : Value → Shared → Prop} {s : Shared} {e it l : Addr} {i : Nat} {items : Array Value} {c : Int} {old : Value} {Q : Option Value → Shared → Prop} (hh : A.handled = none)
    (he : IsEnum s.heap e it c old) (hit : s.heap.IsTupleIter it l i) (hl : s.heap.IsTuple l items) (hx : items[i]? = none)
    (hQ : ∀ h', Heap.ExtBut it s.heap h' → Q none { s with heap := h' }) : wpAny (model prog w) A (pyNext (.ref e)) Q E s := by
  have hTy : s.TypeIs (.ref e) "enumerate" := ⟨_, he, rfl⟩
  unfold pyNext
  refine wpAny_bind (wpAny_attempt (wpAny_callSpecial?_slot (name := Str.ofString "__next__") hTy F.slot_enumerate_next
    (wpAny_call_entry F.slot_enumerate_next hTy F.entry_enumerate_next ?_ (F.args_enumerate_next_1 _))))
  show wpAny _ _ (field (.ref e) 2 >>= _) _ _ _
  refine wpAny_bind (wpAny_field he rfl (x := .ref it) rfl ?_)
  refine wpAny_bind (wpAny_nextOf_tuple_end hh hit hl hx fun h' x he' hx' => ?_)
  obtain ⟨o, ho, hc⟩ := hx'
  refine wpAny_bind (wpAny_isInstance (T := "StopIteration") (b := true) ⟨o, ho, hc⟩ isSubtype_stop ?_)
  exact wpAny_pure (hQ _ he')
/-- the tuple at a, each item in a new pair -/
def IteT (K : PySem.W.Frag) (a : Addr) : L2.It :=
  ⟨fun i H => ∃ (xs : List V) (x : V), SqT K H a xs ∧ xs[i]? = some x, fun i H v H' => ∃ T x, v = .ref T ∧ H T = none ∧ H' = upd H T (.tup [.int (i : Nat), x]) ∧ ∀ xs, SqT K H a xs → xs[i]? = some x, fun i H => ∃ xs : List V, SqT K H a xs ∧ xs.length ≤ i⟩
theorem turn_enumT {P : Program} {w : World} {K : PySem.W.Frag} {elts : List Expr} {kk : Nat} {tpos : Pos} (a e it : Addr) (hat : a ≠ it) (hae : a ≠ e) :
    Turn P w K (.Tuple elts kk tpos) (IteT K a) [e, it] e (fun i h => (∃ old, IsEnum h e it ((i : Nat) : Int) old) ∧ h.IsTupleIter it a i ∧ e ≠ it) where
  mem := by simp
  obj := fun i h st b hb => by
    obtain ⟨⟨old, he⟩, ⟨o, ho, hc, hd⟩, _⟩ := st
    have e' : b = e ∨ b = it := by simpa using hb
    rcases e' with z | z
    · rw [z]; exact ⟨_, he, fun v q => nomatch q⟩
    · rw [z]; exact ⟨o, ho, fun v q => by rw [hd] at q; cases q⟩
  keep := fun i h h' st k => let ⟨⟨old, he⟩, hi, hne⟩ := st; ⟨⟨old, k e (by simp) _ he⟩, hi.at fun o q => k it (by simp) o q, hne⟩
  item := by
    intro X hP hw hK hc i pins s σ H E I hf st hg
    subst hP hw hK
    obtain ⟨⟨old, he⟩, hit, hne⟩ := st
    obtain ⟨xs, x, hq, hx⟩ := hg
    obtain ⟨its, rv, p, hz⟩ := I.tuple hq
    obtain ⟨u, hu, ru⟩ := rv.get hx
    have hel : e < s.heap.objs.size := Heap.lt_size he
    have hil : it < s.heap.objs.size := by obtain ⟨_, q, _⟩ := hit; exact Heap.lt_size q
    have hlt : i < its.toArray.size := by simpa using (List.getElem?_eq_some_iff.mp hu).1
    refine wpAny_pyNext_enum_itemD (Draws.tuple (prog := X.prog) (w := X.w) (A := X.A.in1) (show X.A.in1.handled = none from I.ok.hd hc) it a hat its.toArray) he ⟨hit, ?_⟩ hlt hne ?_ fun y h' tk hy ho st' hT hsz hk => ?_
    · exact p
    · intro m
      rcases List.mem_cons.mp m with m | m
      · exact hne m
      · exact hae (List.mem_singleton.mp m).symm
    obtain rfl : y = u := Option.some.inj (hy.symm.trans (by simpa using hu))
    obtain ⟨hit', _⟩ := st'
    refine ⟨_, rfl, wpAny_letOwnedTupleGo_enum (s := { s with heap := h', toks := tk + 1 }) ho fun h'' he' sb => ?_⟩
    have hT2 : h''.get? s.heap.objs.size = some { cls := .type "tuple", data := .seq #[.int i tk, y] } := (sb.2 _ (Nat.ne_of_gt hel)).trans hT
    have new : ObjOk X.prog X.w (upd H s.heap.objs.size (.tup [.int (i : Nat), x])) h'' s.heap.objs.size (.tup [.int (i : Nat), x]) :=
      ⟨by show 2 ≤ sizeLine; decide, [.int i tk, y], .cons ⟨_, rfl⟩ (.cons ru .nil), ⟨_, hT2, rfl, _, rfl⟩⟩
    have I1 : Inv X pins σ (upd H s.heap.objs.size (.tup [.int (i : Nat), x])) { s with heap := h'', toks := tk + 1 } :=
      I.turnedNew (ch := [e, it]) (fun b ob hb q => (sb.2 b (fun z => hb (by simp [z]))).trans (hk b ob (fun z => hb (by simp [z])) (fun z => hb (by simp [z])) q)) hf (Nat.le_refl _) new
    refine ⟨.ref s.heap.objs.size, _, I1, rfl, ⟨_, x, rfl, I.hok.fresh (Nat.le_refl _), rfl, fun ys hy => by rw [I.tuple_inj hy hq]; exact hx⟩, ⟨⟨y, ?_⟩, hit'.at fun o q => (sb.2 it (Ne.symm hne)).trans q, hne⟩, fun b hb => ?_⟩
    · have e1 : ((i + 1 : Nat) : Int) = (i : Int) + 1 := by omega
      rw [e1]; exact he'
    · have hb' : b < s.heap.objs.size := by
        have e' : b = e ∨ b = it := by simpa using hb
        rcases e' with z | z
        · rw [z]; exact hel
        · rw [z]; exact hil
      rw [upd_ne (Nat.ne_of_lt hb')]
      exact (hf b hb).1
  done := by
    intro X hP hw hK hc i pins s σ H E I hf st hg
    subst hP hw hK
    obtain ⟨⟨old, he⟩, hit, hne⟩ := st
    obtain ⟨xs, hq, hx⟩ := hg
    obtain ⟨its, rv, p, hz⟩ := I.tuple hq
    obtain ⟨f0, f1, f2, f3, f4, f5⟩ := hf it (by simp)
    have hl := rv.length
    exact enumT_end (I.ok.hd hc) he hit p (by simp; omega) fun h' eb => ⟨rfl, I.turned (t' := s.toks) (fun b o hb q => eb b o hb q) f0 f1 f3 f4 f5⟩
  self := fun A i s Q E st h => let ⟨⟨_, he⟩, _⟩ := st; wpAny_pyIter_enum he h
def iEnumT (K : PySem.W.Frag) (ta : TA) : TI := fun σ H R => ta σ H fun vs H1 => ∃ a xs, vs = [.ref a] ∧ ((SqL K H1 a xs ∧ R (Ite K a) H1) ∨ (SqT K H1 a xs ∧ R (IteT K a) H1))
theorem pi_enumT {X : Cx} {e : Expr} {ta : TA} {p pos tpos : Pos} {elts : List Expr} {kk : Nat} (hg : Gl X "enumerate") (hm : X.mg "enumerate" = none) (ha : PA X [e] ta) (hs : starEach [e] X.env = [(false, eval e X.env)] := by rfl) :
    PI X (.Tuple elts kk tpos) (.Call (.Name "enumerate" p) [e] [] pos) (iEnumT X.K ta) := by
  refine ⟨fun pins s σ H R I h => ?_⟩
  refine Call_ (ld_blt I hg hm boot_enumerate (PyProof.Rows.callWith_type1 (thn (ha.run pos pins s σ H _ I h) fun us s1 ⟨vs, H1, I1, r1, q1⟩ => ?_) hs rfl))
  obtain ⟨a, xs, ex, q1⟩ := q1
  subst ex
  cases r1 with
  | cons r rr =>
    cases rr
    cases r
    have fresh : ∀ b, b ∈ [s1.heap.objs.size + 1, s1.heap.objs.size] → FpOk X pins H1 b := fun b hb => by
      have e' : b = s1.heap.objs.size + 1 ∨ b = s1.heap.objs.size := by simpa using hb
      have hle : s1.heap.objs.size ≤ b := by
        rcases e' with z | z
        · rw [z]; exact Nat.le_add_right _ _
        · rw [z]; exact Nat.le_refl _
      exact I1.fpOk hle (I1.hok.fresh hle)
    rcases q1 with ⟨hq, q⟩ | ⟨hq, q⟩
    · obtain ⟨its, rv, p', hz⟩ := I1.list hq
      refine call_enumerate_list p'.isList fun h' he hit hsz hk => wpAny_pyIter_enum he ?_
      have I2 : Inv X pins σ H1 { s1 with heap := h' } := I1.kept (t' := s1.toks) hk
      exact ⟨s1.heap.objs.size + 1, [s1.heap.objs.size + 1, s1.heap.objs.size], _, _, H1, rfl, I2, turn_enum a (s1.heap.objs.size + 1) s1.heap.objs.size, ⟨⟨.none, he⟩, hit, Nat.succ_ne_self _⟩, fresh, q⟩
    · obtain ⟨its, rv, p', hz⟩ := I1.tuple hq
      have hal : a < s1.heap.objs.size := p'.lt
      refine call_enumB (begins_tuple a its.toArray) p' fun h' he hit hsz hk => wpAny_pyIter_enum he ?_
      have I2 : Inv X pins σ H1 { s1 with heap := h' } := I1.kept (t' := s1.toks) hk
      exact ⟨s1.heap.objs.size + 1, [s1.heap.objs.size + 1, s1.heap.objs.size], _, _, H1, rfl, I2, turn_enumT a (s1.heap.objs.size + 1) s1.heap.objs.size (Nat.ne_of_lt hal) (Nat.ne_of_lt (Nat.lt_succ_of_lt hal)), ⟨⟨.none, he⟩, ⟨_, hit, rfl, rfl⟩, Nat.succ_ne_self _⟩, fresh, q⟩
end PyD

/-! PyE8: zip of a list and a tuple: over any two sides. -/
namespace PyD
open PySem PySem.Spec PyProof.Rows L2
/-- what stands at c stays, but for the zip's own -/
abbrev ZKeep (z TO i1 i2 : Addr) (h h' : Heap) : Prop := ∀ c o, c ≠ z → c ≠ TO → c ≠ i1 → c ≠ i2 → h.get? c = some o → h'.get? c = some o
/-- a side of a zip: the iterator at i, over what stands at l -/
structure Side (P : Program) (w : World) (i l : Addr) (its : Array Value) (T : Nat → Heap → Prop) : Prop where
  nx : ∀ (A : Around) (E : Value → Shared → Prop) (s : Shared) (k : Nat) (x : Value) (Q : Value → Shared → Prop), T k s.heap → its[k]? = some x → (∀ h', T (k + 1) h' → Heap.SameBut i s.heap h' → Q x { s with heap := h' }) → wpAny (model P w) A (Builtin.SmallTypes.nextOf (.ref i)) Q E s
  en : ∀ (A : Around) (E : Value → Shared → Prop) (s : Shared) (k : Nat) (Q : Value → Shared → Prop), A.handled = none → T k s.heap → its[k]? = none → (∀ h' e, Heap.ExtBut i s.heap h' → (∃ o, h'.get? e = some o ∧ o.cls = .type "StopIteration") → E (.ref e) { s with heap := h' }) → wpAny (model P w) A (Builtin.SmallTypes.nextOf (.ref i)) Q E s
  kp : ∀ k h h', T k h → (∀ o, h.get? i = some o → h'.get? i = some o) → (∀ o, h.get? l = some o → h'.get? l = some o) → T k h'
section
variable {P : Program} {w : World} {i l : Addr} {its : Array Value}
def TL (i l : Addr) (its : Array Value) (k : Nat) (h : Heap) : Prop := h.IsListIter i l k ∧ h.IsList l its
def TT (i l : Addr) (its : Array Value) (k : Nat) (h : Heap) : Prop := h.IsTupleIter i l k ∧ h.IsTuple l its
theorem side_l (ne : l ≠ i) : Side P w i l its (TL i l its) :=
  ⟨fun A E s k x Q t hx hQ => wpAny_nextOf_list_item t.1 t.2 hx fun h' t' sb => hQ h' ⟨t', t.2.extBut sb.extBut ne⟩ sb, fun A E s k Q hh t hx hE => wpAny_nextOf_list_end hh t.1 t.2 hx hE,
    fun k h h' ⟨⟨o, e, r⟩, o2, e2, r2⟩ g1 g2 => ⟨⟨o, g1 o e, r⟩, o2, g2 o2 e2, r2⟩⟩
theorem side_t (ne : l ≠ i) : Side P w i l its (TT i l its) :=
  ⟨fun A E s k x Q t hx hQ => RZ.nextOf_tuple_item t.1 t.2 hx fun h' t' sb => hQ h' ⟨t', t.2.extBut sb.extBut ne⟩ sb, fun A E s k Q hh t hx hE => RZ.nextOf_tuple_end hh t.1 t.2 hx hE,
    fun k h h' ⟨⟨o, e, r⟩, o2, e2, r2⟩ g1 g2 => ⟨⟨o, g1 o e, r⟩, o2, g2 o2 e2, r2⟩⟩
end
section
variable {P : Program} {w : World} {A : Around} {E : Value → Shared → Prop} {s : Shared} {z TI TO i1 i2 l1 l2 : Addr} {xs ys : Array Value} {T1 T2 : Nat → Heap → Prop} {k : Nat} {a b : Value}
theorem gz_next {Q : Value → Shared → Prop} (hh : A.handled = none) (D : ZipApart z TI TO i1 i2 l1 l2) (S1 : Side P w i1 l1 xs T1) (S2 : Side P w i2 l2 ys T2) (hz : IsZip s.heap z TI TO .none) (hp : IsPair s.heap TI (.ref i1) (.ref i2)) (ho : IsPair s.heap TO a b) (t1 : T1 k s.heap) (t2 : T2 k s.heap)
    (hQ : ∀ x y h', xs[k]? = some x → ys[k]? = some y → IsZip h' z TI TO (rawInt s.heap.objs.size) → IsPair h' TO x y → T1 (k + 1) h' → T2 (k + 1) h' → IsPair h' s.heap.objs.size x y → h'.objs.size = s.heap.objs.size + 1 → ZKeep z TO i1 i2 s.heap h' → Q (.ref s.heap.objs.size) { s with heap := h' })
    (hE : ∀ h' e, (xs[k]? = none ∨ ys[k]? = none) → ZKeep z TO i1 i2 s.heap h' → (∃ o, h'.get? e = some o ∧ o.cls = .type "StopIteration") → E (.ref e) { s with heap := h' }) :
    wpAny (model P w) A (Builtin.«zip.__next__» ⟨[.ref z], []⟩) (fun fin s' => ∃ v, fin = .done (.ret v) ∧ Q v s') E s := by
  show wpAny _ _ (field (.ref z) 2 >>= _) _ _ _
  refine wpAny_bind (wpAny_field hz rfl (x := .bool false) rfl (show wpAny _ _ (field (.ref z) 3 >>= _) _ _ _ from wpAny_bind (wpAny_field hz rfl (x := .ref TI) rfl ?_)))
  refine wpAny_bind (wpAny_seqItems hp rfl (show wpAny _ _ (Builtin.SmallTypes.ownedTupleIsFree (.ref z) >>= _) _ _ _ from wpAny_bind ?_))
  unfold Builtin.SmallTypes.ownedTupleIsFree
  refine wpAny_bind (wpAny_field hz rfl (x := .none) rfl (wpAny_pure ?_))
  rw [if_pos rfl]
  refine wpAny_bind (wpAny_rule (wpAny_bind (wpAny_field hz rfl (x := .ref TO) rfl (wpAny_bind (wpAny_setField_rec hz (by simp) fun ha za sa => ?_)))))
  have za : IsZip ha z TI TO .ellipsis := za
  have ka := fun c o (ne : c ≠ z) (e : s.heap.get? c = some o) => sa.extBut c o ne e
  have ta := S1.kp _ _ _ t1 (fun o => ka i1 o D.i1z) (fun o => ka l1 o D.l1z)
  refine wpAny_bind ?_
  simp only [List.zipIdx_cons, List.zipIdx_nil, List.forIn_cons, List.forIn_nil]
  refine wpAny_bind (wpAny_bind (wpAny_onRaise (show wpAny _ _ (Builtin.SmallTypes.nextOf (.ref i1) >>= _) _ _ _ from wpAny_bind ?_)))
  cases hx : xs[k]? with
  | none =>
    refine S1.en _ _ _ k _ hh ta hx fun hb e eb ⟨oe, he, ce⟩ => ?_
    have zb : IsZip hb z TI TO .ellipsis := eb _ _ D.i1z.symm za
    have ne : e ≠ z := fun q => by subst q; rw [zb] at he; cases he; simp at ce
    exact wpAny_setField_rec zb (by simp) fun hc _ sc => hE hc e (.inl hx) (fun c o c1 _ c3 _ g => sc.extBut c o c1 (eb c o c3 (ka c o c1 g))) ⟨oe, sc.extBut e oe ne he, ce⟩
  | some x =>
    refine S1.nx _ _ _ k x _ ta hx fun hb tb sb => wpAny_pure ?_
    have pb : IsPair hb TO a b := sb.extBut _ _ D.TOi1 (ka _ _ D.TOz ho)
    refine wpAny_bind (wpAny_seqItems pb rfl (wpAny_bind (wpAny_updateSeq_pair pb fun hc pc sc => wpAny_bind (wpAny_letGo (wpAny_pure ?_)))))
    have pc : IsPair hc TO x b := pc
    have kc : ∀ c o, c ≠ z → c ≠ TO → c ≠ i1 → s.heap.get? c = some o → hc.get? c = some o := fun c o c1 c2 c3 g => sc.extBut c o c2 (sb.extBut c o c3 (ka c o c1 g))
    have zc : IsZip hc z TI TO .ellipsis := sc.extBut _ _ D.TOz.symm (sb.extBut _ _ D.i1z.symm za)
    have tc := S2.kp _ _ _ t2 (fun o => kc i2 o D.i2z D.TOi2.symm D.i12.symm) (fun o => kc l2 o D.l2z D.l2TO D.l2i1)
    have tc1 := S1.kp _ _ hc tb (fun o g => sc.extBut i1 o D.TOi1.symm g) (fun o g => sc.extBut l1 o D.l1TO g)
    refine wpAny_bind (wpAny_bind (wpAny_onRaise (show wpAny _ _ (Builtin.SmallTypes.nextOf (.ref i2) >>= _) _ _ _ from wpAny_bind ?_)))
    cases hy : ys[k]? with
    | none =>
      refine S2.en _ _ _ k _ hh tc hy fun hd e ed ⟨oe, he, ce⟩ => ?_
      have zd : IsZip hd z TI TO .ellipsis := ed _ _ D.i2z.symm zc
      have ne : e ≠ z := fun q => by subst q; rw [zd] at he; cases he; simp at ce
      exact wpAny_setField_rec zd (by simp) fun hf _ sf => hE hf e (.inr hy) (fun c o c1 c2 c3 c4 g => sf.extBut c o c1 (ed c o c4 (kc c o c1 c2 c3 g))) ⟨oe, sf.extBut e oe ne he, ce⟩
    | some y =>
      refine S2.nx _ _ _ k y _ tc hy fun hd td sd => wpAny_pure ?_
      have pd : IsPair hd TO x b := sd.extBut _ _ D.TOi2 pc
      refine wpAny_bind (wpAny_seqItems pd rfl (wpAny_bind (wpAny_updateSeq_pair pd fun he pe se => wpAny_bind (wpAny_letGo (wpAny_pure (wpAny_pure ?_))))))
      have pe : IsPair he TO x y := pe
      refine wpAny_bind (wpAny_seqItems pe rfl (wpAny_bind (wpAny_newTuple ?_)))
      have ke : ZKeep z TO i1 i2 s.heap he := fun c o c1 c2 c3 c4 g => se.extBut c o c2 (sd.extBut c o c4 (kc c o c1 c2 c3 g))
      have ze : IsZip he z TI TO .ellipsis := se.extBut _ _ D.TOz.symm (sd.extBut _ _ D.i2z.symm zc)
      have t1e := S1.kp _ _ he tc1 (fun o g => se.extBut i1 o D.TOi1.symm (sd.extBut i1 o D.i12 g)) (fun o g => se.extBut l1 o D.l1TO (sd.extBut l1 o D.l1i2 g))
      have t2e := S2.kp _ _ he td (fun o g => se.extBut i2 o D.TOi2.symm g) (fun o g => se.extBut l2 o D.l2TO g)
      have ns : he.objs.size = s.heap.objs.size := by rw [se.1, sd.1, sc.1, sb.1, sa.1]
      have zlt : z < he.objs.size := Heap.lt_size ze
      refine (show wpAny _ _ (Builtin.SmallTypes.ownedTupleHandOut (.ref z) (.ref he.objs.size) >>= _) _ _ _ from wpAny_bind ?_)
      unfold Builtin.SmallTypes.ownedTupleHandOut
      have zf : IsZip (he.push { cls := .type "tuple", data := .seq #[x, y] }) z TI TO .ellipsis := Heap.get?_push_of_some _ ze
      refine wpAny_bind (wpAny_setField_rec zf (by simp) fun hg zg sg => ?_)
      have zg : IsZip hg z TI TO (rawInt he.objs.size) := zg
      refine wpAny_setField_rec zg (by simp) fun hi zi si => wpAny_pure ⟨.ref he.objs.size, rfl, ?_⟩
      have zi : IsZip hi z TI TO (rawInt he.objs.size) := zi
      have up : ∀ c o, c ≠ z → he.get? c = some o → hi.get? c = some o := fun c o c1 g => si.extBut c o c1 (sg.extBut c o c1 (Heap.get?_push_of_some _ g))
      have pn : IsPair hi he.objs.size x y := si.extBut _ _ (Nat.ne_of_gt zlt) (sg.extBut _ _ (Nat.ne_of_gt zlt) (Heap.get?_push_size _ rfl))
      have nn : hi.objs.size = he.objs.size + 1 := by rw [si.1, sg.1, Heap.size_push]
      rw [ns] at zi pn nn ⊢
      exact hQ x y hi hx hy zi (up _ _ D.TOz pe) (S1.kp _ _ _ t1e (fun o => up i1 o D.i1z) (fun o => up l1 o D.l1z)) (S2.kp _ _ _ t2e (fun o => up i2 o D.i2z) (fun o => up l2 o D.l2z)) pn nn fun c o c1 c2 c3 c4 g => up c o c1 (ke c o c1 c2 c3 c4 g)
/-- a turn -/
theorem gz_turn {Q : Option Value → Shared → Prop} (hh : A.handled = none) (D : ZipApart z TI TO i1 i2 l1 l2) (S1 : Side P w i1 l1 xs T1) (S2 : Side P w i2 l2 ys T2) (hz : IsZip s.heap z TI TO .none) (hp : IsPair s.heap TI (.ref i1) (.ref i2)) (ho : IsPair s.heap TO a b) (t1 : T1 k s.heap) (t2 : T2 k s.heap)
    (hQ : ∀ x y h', xs[k]? = some x → ys[k]? = some y → IsZip h' z TI TO (rawInt s.heap.objs.size) → IsPair h' TO x y → T1 (k + 1) h' → T2 (k + 1) h' → IsPair h' s.heap.objs.size x y → h'.objs.size = s.heap.objs.size + 1 → ZKeep z TO i1 i2 s.heap h' → Q (some (.ref s.heap.objs.size)) { s with heap := h' })
    (hE : ∀ h', (xs[k]? = none ∨ ys[k]? = none) → ZKeep z TO i1 i2 s.heap h' → Q none { s with heap := h' }) : wpAny (model P w) A (pyNext (.ref z)) Q E s := by
  have ty : s.TypeIs (.ref z) "zip" := ⟨_, hz, rfl⟩
  unfold pyNext
  refine wpAny_bind (wpAny_attempt (wpAny_callSpecial?_slot (name := Str.ofString "__next__") ty F.slot_zip_next (wpAny_call_entry F.slot_zip_next ty F.entry_zip_next ?_ (F.args_zip_next_1 _))))
  refine gz_next hh D S1 S2 hz hp ho t1 t2 (fun x y h' g1 g2 g3 g4 g5 g6 g7 g8 g9 => wpAny_pure (hQ x y h' g1 g2 g3 g4 g5 g6 g7 g8 g9)) fun h' e he hk ⟨o, go, gc⟩ => ?_
  exact wpAny_bind (wpAny_isInstance (T := "StopIteration") (b := true) ⟨o, go, gc⟩ isSubtype_stop (wpAny_pure (hE h' he hk)))
end

/-- the list at a and the tuple at b as they stand at each turn, the items in new pairs -/
def ItzM (K : PySem.W.Frag) (a b : Addr) : L2.It :=
  ⟨fun i H => ∃ (vs ws : List V) (x y : V), (SqL K H a vs ∧ SqT K H b ws) ∧ vs[i]? = some x ∧ ws[i]? = some y,
    fun i H v H' => ∃ T x y, v = .ref T ∧ H T = none ∧ H' = upd H T (.tup [x, y]) ∧ (∀ vs, SqL K H a vs → vs[i]? = some x) ∧ (∀ ws, SqT K H b ws → ws[i]? = some y),
    fun i H => ∃ vs ws : List V, (SqL K H a vs ∧ SqT K H b ws) ∧ (vs.length ≤ i ∨ ws.length ≤ i)⟩
theorem turn_zipM {P : Program} {w : World} {K : PySem.W.Frag} {el : List Expr} {kk : Nat} {tp : Pos} {a b z TI TO i1 i2 : Addr} (D : ZipApart z TI TO i1 i2 a b) :
    Turn P w K (.Tuple el kk tp) (ItzM K a b) [z, TI, TO, i1, i2] z (fun i h => IsZip h z TI TO .none ∧ IsPair h TI (.ref i1) (.ref i2) ∧ (∃ x y, IsPair h TO x y) ∧ h.IsListIter i1 a i ∧ h.IsTupleIter i2 b i) := by
  have cs : ∀ {c}, c ∈ [z, TI, TO, i1, i2] → c = z ∨ c = TI ∨ c = TO ∨ c = i1 ∨ c = i2 := fun h => by simpa using h
  refine ⟨by simp, fun i h ⟨hz, hp, ⟨x, y, ho⟩, ⟨o1, g1, _, d1⟩, o2, g2, _, d2⟩ c hc => ?_, fun i h h' ⟨hz, hp, ⟨x, y, ho⟩, ⟨o1, g1, r1⟩, o2, g2, r2⟩ k => ⟨k z (by simp) _ hz, k TI (by simp) _ hp, ⟨x, y, k TO (by simp) _ ho⟩, ⟨o1, k i1 (by simp) _ g1, r1⟩, o2, k i2 (by simp) _ g2, r2⟩, ?_, ?_, fun A i s Q E st h => wpAny_pyIter_zip st.1 h⟩
  · rcases cs hc with q | q | q | q | q <;> subst q
    · exact ⟨_, hz, fun v q => nomatch q⟩
    · exact ⟨_, hp, fun v q => nomatch q⟩
    · exact ⟨_, ho, fun v q => nomatch q⟩
    · exact ⟨o1, g1, fun v q => by rw [d1] at q; cases q⟩
    · exact ⟨o2, g2, fun v q => by rw [d2] at q; cases q⟩
  · intro X hP hw hK hc i pins s σ H E I hf ⟨hz, hp, ⟨x0, y0, ho⟩, t1, t2⟩ ⟨vs, ws, x, y, ⟨qa, qb⟩, hx, hy⟩
    subst hP hw hK
    obtain ⟨its, rv, pa, _⟩ := I.list qa
    obtain ⟨jts, rw2, pb, _⟩ := I.tuple qb
    obtain ⟨u, hu, ru⟩ := rv.get hx
    obtain ⟨v, hv, rv2⟩ := rw2.get hy
    have zl : z < s.heap.objs.size := Heap.lt_size hz
    have lt : ∀ c ∈ [z, TI, TO, i1, i2], c < s.heap.objs.size := fun c hc => by
      obtain ⟨_, g1, _⟩ := t1
      obtain ⟨_, g2, _⟩ := t2
      rcases cs hc with q | q | q | q | q <;> subst q
      · exact zl
      · exact Heap.lt_size hp
      · exact Heap.lt_size ho
      · exact Heap.lt_size g1
      · exact Heap.lt_size g2
    refine gz_turn (I.ok.hd hc) D (side_l (its := its.toArray) D.l1i1) (side_t (its := jts.toArray) D.l2i2) hz hp ho ⟨t1, pa.isList⟩ ⟨t2, pb⟩ (fun x' y' h' gx gy z' o' t1' t2' pn nn kp => ?_) fun h' no _ => ?_
    · have ex : x' = u := by have : its.toArray[i]? = some u := by simpa using hu
                             rw [this] at gx; exact (Option.some.inj gx).symm
      have ey : y' = v := by have : jts.toArray[i]? = some v := by simpa using hv
                             rw [this] at gy; exact (Option.some.inj gy).symm
      subst ex; subst ey
      refine ⟨_, rfl, wpAny_letOwnedTupleGo_zip (s := { s with heap := h' }) z' fun h2 z2 sb => ?_⟩
      have pn2 : h2.get? s.heap.objs.size = some { cls := .type "tuple", data := .seq #[x', y'] } := (sb.2 _ (Nat.ne_of_gt zl)).trans pn
      have ok2 : ObjOk X.prog X.w (upd H s.heap.objs.size (.tup [x, y])) h2 s.heap.objs.size (.tup [x, y]) := ⟨show 2 ≤ sizeLine by decide, [x', y'], .cons ru (.cons rv2 .nil), _, pn2, rfl, _, rfl⟩
      have I2 : Inv X pins σ (upd H s.heap.objs.size (.tup [x, y])) { s with heap := h2 } := I.turnedNew (t' := s.toks) (ch := [z, TI, TO, i1, i2]) (fun c o nc g => (sb.2 c (fun q => nc (by simp [q]))).trans (kp c o (fun q => nc (by simp [q])) (fun q => nc (by simp [q])) (fun q => nc (by simp [q])) (fun q => nc (by simp [q])) g)) hf (Nat.le_refl _) ok2
      refine ⟨.ref s.heap.objs.size, _, I2, rfl, ⟨_, x, y, rfl, I.hok.fresh (Nat.le_refl _), rfl, fun l hl => by rw [I.list_inj hl qa]; exact hx, fun l hl => by rw [I.tuple_inj hl qb]; exact hy⟩, ⟨z2, (sb.2 _ D.TIz).trans (kp _ _ D.TIz D.TITO D.TIi1 D.TIi2 hp), ⟨x', y', (sb.2 _ D.TOz).trans o'⟩, ?_, ?_⟩, fun c hcm => ?_⟩
      · obtain ⟨o1, g1, r1⟩ := t1'.1
        exact ⟨o1, (sb.2 _ D.i1z).trans g1, r1⟩
      · obtain ⟨o2, g2, r2⟩ := t2'.1
        exact ⟨o2, (sb.2 _ D.i2z).trans g2, r2⟩
      · rw [upd_ne (Nat.ne_of_lt (lt c hcm))]; exact (hf c hcm).1
    · exfalso
      rcases no with q | q
      · have : its.toArray[i]? = some u := by simpa using hu
        rw [this] at q; cases q
      · have : jts.toArray[i]? = some v := by simpa using hv
        rw [this] at q; cases q
  · intro X hP hw hK hc i pins s σ H E I hf ⟨hz, hp, ⟨x0, y0, ho⟩, t1, t2⟩ ⟨vs, ws, ⟨qa, qb⟩, no⟩
    subst hP hw hK
    obtain ⟨its, rv, pa, _⟩ := I.list qa
    obtain ⟨jts, rw2, pb, _⟩ := I.tuple qb
    have n1 := rv.length
    have n2 := rw2.length
    refine gz_turn (I.ok.hd hc) D (side_l (its := its.toArray) D.l1i1) (side_t (its := jts.toArray) D.l2i2) hz hp ho ⟨t1, pa.isList⟩ ⟨t2, pb⟩ (fun x' y' h' gx gy _ _ _ _ _ _ _ => ?_) fun h' _ kp => ⟨rfl, I.turnedL (t' := s.toks) (ch := [z, TI, TO, i1, i2]) (fun c o nc g => kp c o (fun q => nc (by simp [q])) (fun q => nc (by simp [q])) (fun q => nc (by simp [q])) (fun q => nc (by simp [q])) g) hf⟩
    exfalso
    have b1 := (Array.getElem?_eq_some_iff.mp gx).1
    have b2 := (Array.getElem?_eq_some_iff.mp gy).1
    simp at b1 b2
    omega
/-- the heap of a new zip, over iterators of these kinds -/
abbrev zmIt (c : String) (h : Heap) (l : Addr) : Heap := h.push { cls := .type c, data := .fields #[.ref l, .int 0 0] }
abbrev zmTI (h : Heap) (l1 l2 : Addr) : Heap := (zmIt "tuple_iterator" (zmIt "list_iterator" h l1) l2).push { cls := .type "tuple", data := .seq #[.ref h.objs.size, .ref (zmIt "list_iterator" h l1).objs.size] }
abbrev zmTO (h : Heap) (l1 l2 : Addr) : Heap := (zmTI h l1 l2).push { cls := .type "tuple", data := .seq #[.none, .none] }
abbrev zmZ (h : Heap) (l1 l2 : Addr) : Heap := (zmTO h l1 l2).push { cls := .type "zip", data := .fields #[.none, .bool false, .bool false, .ref (zmIt "tuple_iterator" (zmIt "list_iterator" h l1) l2).objs.size, .ref (zmTI h l1 l2).objs.size] }
theorem zm_new (l1 l2 : Addr) (xs ys : Array Value) : Meets (Builtin.«zip.__new__» ⟨[.type "zip", .ref l1, .ref l2], []⟩) (fun _ R s => s.heap.IsList l1 xs ∧ s.heap.IsTuple l2 ys ∧ R (.ok (.ret (.ref (zmTO s.heap l1 l2).objs.size))) { s with heap := zmZ s.heap l1 l2 }) :=
  .of_wp fun prog w A R s h => by
    obtain ⟨hp, g, d, tk, os⟩ := s
    obtain ⟨h1, h2, h3⟩ := h
    have sz := sub_zip
    have e1 : Heap.IsList (Shared.heap ⟨hp, g, d, tk, os⟩) l1 xs := h1
    have e2 : Heap.IsTuple (Shared.heap ⟨zmIt "list_iterator" hp l1, g, d, tk, os⟩) l2 ys := Heap.IsTuple.push h2 _
    wp_walk using wpAny_pyIter_list e1, wpAny_pyIter_tuple e2
    exact ⟨_, rfl, h3⟩
theorem zm_call {P : Program} {w : World} {A : Around} {E : Value → Shared → Prop} {s : Shared} {l1 l2 : Addr} {xs ys : Array Value} {Q : Value → Shared → Prop} (e1 : s.heap.IsList l1 xs) (e2 : s.heap.IsTuple l2 ys)
    (h : ∀ h' n, n = s.heap.objs.size → IsZip h' (n + 4) (n + 2) (n + 3) .none → IsPair h' (n + 2) (.ref n) (.ref (n + 1)) → IsPair h' (n + 3) .none .none → h'.IsListIter n l1 0 → h'.IsTupleIter (n + 1) l2 0 → (∀ c o, s.heap.get? c = some o → h'.get? c = some o) → Q (.ref (n + 4)) { s with heap := h' }) :
    wpAny (model P w) A (call (.type "zip") [.ref l1, .ref l2]) Q E s := by
  refine callType_new F.called_zip (by decide) (F.typeCall_zip_2 _ _) (F.newCall_zip_2 _ _) (fun obj => F.args_object_init_3 obj _ _) F.entry_zip_new (zm_new l1 l2 xs ys) ⟨e1, e2, ?_⟩
  generalize hn : s.heap.objs.size = n at h
  have s1 : (zmIt "list_iterator" s.heap l1).objs.size = n + 1 := by rw [Heap.size_push, hn]
  have s2 : (zmIt "tuple_iterator" (zmIt "list_iterator" s.heap l1) l2).objs.size = n + 2 := by rw [Heap.size_push, s1]
  have s3 : (zmTI s.heap l1 l2).objs.size = n + 3 := by rw [Heap.size_push, s2]
  have s4 : (zmTO s.heap l1 l2).objs.size = n + 4 := by rw [Heap.size_push, s3]
  have up1 : ∀ {c o}, (zmTO s.heap l1 l2).get? c = some o → (zmZ s.heap l1 l2).get? c = some o := fun g => Heap.get?_push_of_some _ g
  have up2 : ∀ {c o}, (zmTI s.heap l1 l2).get? c = some o → (zmZ s.heap l1 l2).get? c = some o := fun g => up1 (Heap.get?_push_of_some _ g)
  have up3 : ∀ {c o}, (zmIt "tuple_iterator" (zmIt "list_iterator" s.heap l1) l2).get? c = some o → (zmZ s.heap l1 l2).get? c = some o := fun g => up2 (Heap.get?_push_of_some _ g)
  have up4 : ∀ {c o}, (zmIt "list_iterator" s.heap l1).get? c = some o → (zmZ s.heap l1 l2).get? c = some o := fun g => up3 (Heap.get?_push_of_some _ g)
  have gz : (zmZ s.heap l1 l2).get? (zmTO s.heap l1 l2).objs.size = some _ := Heap.get?_push_size _ rfl
  have go := up1 (Heap.get?_push_size (zmTI s.heap l1 l2) (o := { cls := .type "tuple", data := .seq #[.none, .none] }) rfl)
  have gi := up2 (Heap.get?_push_size (zmIt "tuple_iterator" (zmIt "list_iterator" s.heap l1) l2) (o := { cls := .type "tuple", data := .seq #[.ref s.heap.objs.size, .ref (zmIt "list_iterator" s.heap l1).objs.size] }) rfl)
  have g2 := up3 (Heap.get?_push_size (zmIt "list_iterator" s.heap l1) (o := { cls := .type "tuple_iterator", data := .fields #[.ref l2, .int 0 0] }) rfl)
  have g1 := up4 (Heap.get?_push_size s.heap (o := { cls := .type "list_iterator", data := .fields #[.ref l1, .int 0 0] }) rfl)
  rw [s2, s3, s4] at gz
  rw [s1, s2, hn] at gi
  rw [s3] at go
  rw [s1] at g2
  rw [hn] at g1
  show _ ∧ _
  rw [s4]
  exact ⟨⟨_, gz, rfl⟩, h _ n rfl gz gi go ⟨_, g1, rfl, rfl⟩ ⟨_, g2, rfl, rfl⟩ fun c o g => up4 (Heap.get?_push_of_some _ g)⟩
/-- zip of two tuples, of a list and a tuple -/
def iZipD (K : PySem.W.Frag) (ta : TA) : TI := fun σ H R => ta σ H fun vs H1 => ∃ a b xs ys, vs = [.ref a, .ref b] ∧ ((SqT K H1 a xs ∧ SqT K H1 b ys ∧ R (RZ.ItzT K a b) H1) ∨ (SqL K H1 a xs ∧ SqT K H1 b ys ∧ R (ItzM K a b) H1))
theorem pi_zipD {X : Cx} {e e2 : Expr} {ta : TA} {p pos tp : Pos} {el : List Expr} {kk : Nat} (hg : Gl X "zip") (hm : X.mg "zip" = none) (ha : PA X [e, e2] ta)
    (hs : starEach [e, e2] X.env = (false, eval e X.env) :: starEach [e2] X.env) (hpl : (backTo pos (starEach [e2] X.env)).any (·.1) = false) : PI X (.Tuple el kk tp) (.Call (.Name "zip" p) [e, e2] [] pos) (iZipD X.K ta) := by
  refine ⟨fun pins s σ H R I h => Call_ (ld_blt I hg hm PyProof.Rows.boot_zip (PyProof.Rows.callWith_type1 (thn (ha.run pos pins s σ H _ I h) fun us s1 ⟨vs, H1, I1, r1, a, b, xs, ys, ex, q⟩ => ?_) hs hpl))⟩
  subst ex
  cases r1 with
  | cons ra rr =>
    cases rr with
    | cons rb rr =>
      cases rr; cases ra; cases rb
      have fr : ∀ n, n = s1.heap.objs.size → ∀ c ∈ [n + 4, n + 2, n + 3, n, n + 1], FpOk X pins H1 c := fun n hn c hc => by
        have hle : s1.heap.objs.size ≤ c := by
          simp only [List.mem_cons, List.mem_nil_iff, or_false] at hc
          rcases hc with q | q | q | q | q <;> subst q <;> omega
        exact I1.fpOk hle (I1.hok.fresh hle)
      rcases q with ⟨qa, qb, q⟩ | ⟨qa, qb, q⟩
      · obtain ⟨its, _, p1, _⟩ := I1.tuple qa
        obtain ⟨jts, _, p2, _⟩ := I1.tuple qb
        obtain ⟨o1, h1, _⟩ := id p1
        obtain ⟨o2, h2, _⟩ := id p2
        refine RZ.call_zipT (xs := its.toArray) (ys := jts.toArray) p1 p2 fun h' hz hp ho t1 t2 _ hk => wpAny_pyIter_zip hz ⟨_, _, _, _, H1, rfl, I1.kept (t' := s1.toks) hk, RZ.turn_zipT (PySem.W.ktu_apart s1.heap.objs.size a b (Heap.lt_size h1) (Heap.lt_size h2)), ⟨hz, hp, ⟨_, _, ho⟩, t1, t2⟩, fr _ rfl, q⟩
      · obtain ⟨its, _, p1, _⟩ := I1.list qa
        obtain ⟨jts, _, p2, _⟩ := I1.tuple qb
        obtain ⟨o2, h2, _⟩ := id p2
        refine zm_call (xs := its.toArray) (ys := jts.toArray) p1.isList p2 fun h' n hn hz hp ho t1 t2 hk => wpAny_pyIter_zip hz ⟨_, _, _, _, H1, rfl, I1.kept (t' := s1.toks) hk, turn_zipM (by rw [hn]; exact PySem.W.ktu_apart s1.heap.objs.size a b p1.lt (Heap.lt_size h2)), ⟨hz, hp, ⟨_, _, ho⟩, t1, t2⟩, fr n hn, q⟩
end PyD

/-! PyD6: targets, what is walked, comprehensions, by data. -/
namespace PyD
open PySem PySem.Spec PyProof.Rows L2

/-! ### targets -/
mutual
def slots : Tg → List Nat
  | .v i => [i]
  | .t ts => slotss ts
def slotss : Tgs → List Nat
  | .nil => []
  | .cons t ts => slots t ++ slotss ts
end
/-- the slots outside stay -/
def Off (is : List Nat) (σ σ' : L2.St) : Prop := σ'.length = σ.length ∧ ∀ i, i ∉ is → σ'[i]? = σ[i]?
theorem Off.refl (is : List Nat) (σ : L2.St) : Off is σ σ := ⟨rfl, fun _ _ => rfl⟩
theorem Off.trans {is js : List Nat} {σ σ1 σ2 : L2.St} (a : Off is σ σ1) (b : Off js σ1 σ2) : Off (is ++ js) σ σ2 :=
  ⟨b.1.trans a.1, fun i h => by
    rw [List.mem_append, not_or] at h
    rw [b.2 i h.2, a.2 i h.1]⟩
def gD (K : Kw) (t : Tg) : TG := fun v σ H Q => ∃ ρ σd h d σd', RepS K ρ H σ σd ∧ RepH K ρ H h ∧ DV K ρ H d v ∧ put t d σd = some σd' ∧ ∀ σ', RepS K ρ H σ' σd' → Off (slots t) σ σ' → Q σ' H
def gDs (K : Kw) (ts : Tgs) : TGs := fun vs σ H Q => ∃ ρ σd h ds σd', RepS K ρ H σ σd ∧ RepH K ρ H h ∧ DVs K ρ H ds vs ∧ puts ts ds σd = some σd' ∧ ∀ σ', RepS K ρ H σ' σd' → Off (slotss ts) σ σ' → Q σ' H
abbrev RG (X : Cx) (tg : Expr) (t : Tg) : Prop := PG X tg (gD X.kw t)
abbrev RGs (X : Cx) (tgs : List Expr) (t : Tgs) : Prop := PGs X tgs (gDs X.kw t)
theorem _root_.L2.PG.imp {X : Cx} {e : Expr} {t t' : TG} (h : PG X e t) (i : ∀ v σ H Q, t' v σ H Q → t v σ H Q) : PG X e t' := ⟨fun pins s σ H v u Q I r q => h.run pins s σ H v u Q I r (i v σ H Q q)⟩
theorem _root_.L2.PGs.imp {X : Cx} {e : List Expr} {t t' : TGs} (h : PGs X e t) (i : ∀ v σ H Q, t' v σ H Q → t v σ H Q) : PGs X e t' := ⟨fun pins s σ H v u Q I r q => h.run pins s σ H v u Q I r (i v σ H Q q)⟩
theorem _root_.L2.PI.imp {X : Cx} {tg e : Expr} {t t' : TI} (h : PI X tg e t) (i : ∀ σ H R, t' σ H R → t σ H R) : PI X tg e t' := ⟨fun pins s σ H R I q => h.run pins s σ H R I (i σ H R q)⟩
theorem each_cons {e : Expr} (h : plainE e = true) (es : List Expr) (env : Env) : assignEach (e :: es) env = (false, assign e env) :: assignEach es env := by
  cases e <;> first | rfl | simp [plainE] at h
theorem each_len (env : Env) : ∀ {es : List Expr}, es.all plainE = true → (assignEach es env).length = es.length ∧ (assignEach es env).findIdx? (·.1) = none
  | [], _ => ⟨rfl, rfl⟩
  | e :: es, h => by
    rw [List.all_cons, Bool.and_eq_true] at h
    obtain ⟨h1, h2⟩ := each_len env h.2
    rw [each_cons h.1]
    refine ⟨by simp [h1], ?_⟩
    rw [List.findIdx?_cons]
    simp [h2]
section
variable {X : Cx} {pos p : Pos} {e a b : Expr} {es : List Expr}
theorem rg_v {i : Nat} {x : Str} (hN : X.N.Nodup) (hi : X.N[i]? = some x) (hx : Loc X.env.scope x) (hf : X.fn x = true ∨ X.env.scope.names.lookup x = some .local) : RG X (.Name x pos) (.v i) :=
  (pg_name hN hi hx hf).imp fun v σ H Q ⟨ρ, σd, h, d, σd', rs, rh, q, e, o⟩ => by
    simp only [put, Option.some.injEq] at e; subst e
    refine o _ (rs.set q) ⟨by simp, fun j hj => ?_⟩
    simp only [slots, List.mem_singleton] at hj
    rw [List.getElem?_set_ne (Ne.symm hj)]
theorem rgs_nil : RGs X [] .nil := pgs_nil.imp fun vs σ H Q ⟨ρ, σd, h, ds, σd', rs, rh, q, e, o⟩ => by
  cases ds with
  | nil =>
    simp only [puts, Option.some.injEq] at e; subst e
    simp only [DVs] at q
    exact ⟨q, o σ rs (Off.refl _ _)⟩
  | cons _ _ => simp [puts] at e
theorem rgs_cons {t : Tg} {ts : Tgs} (hp : plainE e = true) (h1 : RG X e t) (h2 : RGs X es ts) : RGs X (e :: es) (.cons t ts) :=
  (pgs_cons h1 h2 (by rw [each_cons hp]; rfl)).imp fun vs σ H Q ⟨ρ, σd, h, ds, σd', rs, rh, q, e, o⟩ => by
    cases ds with
    | nil => simp [puts] at e
    | cons d ds =>
      simp only [puts] at e
      cases ep : put t d σd with
      | none => simp [ep] at e
      | some σ1 =>
        simp only [ep, Option.bind_some] at e
        simp only [DVs] at q
        obtain ⟨v, r, rfl, q1, q2⟩ := q
        refine ⟨v, r, rfl, ρ, σd, h, d, σ1, rs, rh, q1, ep, fun σ' rs' off => ⟨ρ, σ1, h, ds, σd', rs', rh, q2, e, fun σ2 rs2 off2 => o σ2 rs2 ?_⟩⟩
        have := off.trans off2
        simpa only [slotss] using this
def lenT : Tgs → Nat
  | .nil => 0
  | .cons _ ts => lenT ts + 1
theorem puts_len : ∀ {ts : Tgs} {ds : List D} {σ σ' : Sl}, puts ts ds σ = some σ' → ds.length = lenT ts
  | .nil, [], _, _, _ => rfl
  | .nil, _ :: _, _, _, e => by simp [puts] at e
  | .cons _ _, [], _, _, e => by simp [puts] at e
  | .cons t ts, d :: ds, σ, σ', e => by
    simp only [puts] at e
    cases ep : put t d σ with
    | none => simp [ep] at e
    | some σ1 =>
      simp only [ep, Option.bind_some] at e
      rw [List.length_cons, puts_len e, lenT]
theorem rg_t {ts : Tgs} {k : Nat} (hc : X.calm = true) (hp : es.all plainE = true) (hl : lenT ts = es.length) (h : RGs X es ts) : RG X (.Tuple es k pos) (.t ts) :=
  (pg_tup (n := es.length) hc h (each_len _ hp).1 (each_len _ hp).2).imp fun v σ H Q ⟨ρ, σd, hh, d, σd', rs, rh, q, e, o⟩ => by
    cases d with
    | tup ds =>
      simp only [put] at e
      obtain ⟨a, vs, rfl, z, y⟩ := q.t
      refine ⟨a, vs, rfl, z.sq, ?_, ρ, σd, hh, ds, σd', rs, rh, y, e, fun σ' rs' off => o σ' rs' (by simpa only [slots] using off)⟩
      rw [← y.length, puts_len e, hl]
    | _ => simp [put] at e

/-! ### what is walked -/
/-- at any later time in which the list keeps its length the walk goes over the items -/
def Wk (K : Kw) (ρ : Rho) (H : Hp) (J : L2.It) (xs : List D) (n : Option Nat) : Prop :=
  ∀ ρ' H' h' i, Ext ρ H ρ' H' → RepH K ρ' H' h' → okL n xs.length h' = true →
    (i = xs.length → J.stop i H') ∧ ∀ x d, xs[i]? = some x → cur n i x h' = some d → J.go i H' ∧ ∀ v H'', J.yld i H' v H'' → Ext ρ' H' ρ' H'' ∧ RepH K ρ' H'' h' ∧ DV K ρ' H'' d v
def tI (K : Kw) (m : Sl → AH → Option (List D × Option Nat × AH)) : TI := fun σ H R =>
  ∃ ρ σd h xs n h', RepS K ρ H σ σd ∧ RepH K ρ H h ∧ m σd h = some (xs, n, h') ∧ ∀ J H' ρ', Ext ρ H ρ' H' → RepH K ρ' H' h' → Wk K ρ' H' J xs n → R J H'
abbrev RI (X : Cx) (tg e : Expr) (m : Sl → AH → Option (List D × Option Nat × AH)) : Prop := PI X tg e (tI X.kw m)
variable {tg : Expr} {m ma mb : Sl → AH → Option (D × AH)}
/-- a list or a tuple -/
def iSeq (K : Kw) (tl : TE) : TI := fun σ H R => tl σ H fun x H1 => ∃ a xs, x = .ref a ∧ ((SqL K H1 a xs ∧ R (Itl K a) H1) ∨ (SqT K H1 a xs ∧ R (Itt K a) H1))
theorem pi_seq {l : Expr} {tl : TE} (hl : PE X l tl) : PI X tg l (iSeq X.kw tl) := by
  refine ⟨fun pins s σ H R I h => ?_⟩
  refine thn (hl.run pins s σ H _ I h) fun v s1 ⟨x, H1, I1, r1, q1⟩ => ?_
  obtain ⟨a, xs, e, q1⟩ := q1
  subst e
  cases r1
  have fr : ∀ b ∈ [s1.heap.objs.size], FpOk X pins H1 b := fun b hb => by
    have e : b = s1.heap.objs.size := by simpa using hb
    subst e
    exact I1.fpOk (Nat.le_refl _) (I1.hok.fresh (Nat.le_refl _))
  rcases q1 with ⟨hq, q⟩ | ⟨hq, q⟩
  · obtain ⟨its, rv, p, hz⟩ := I1.list hq
    exact wpAny_pyIter_list p.isList ⟨s1.heap.objs.size, [s1.heap.objs.size], _, _, H1, rfl, I1.kept (t' := s1.toks) fun b o e => Heap.get?_push_of_some _ e, turn_list a _, ⟨_, Heap.get?_push_size _ rfl, rfl, rfl⟩, fr, q⟩
  · obtain ⟨its, rv, p, hz⟩ := I1.tuple hq
    exact wpAny_pyIter_tuple (show s1.heap.IsTuple a its.toArray from p) ⟨s1.heap.objs.size, [s1.heap.objs.size], _, _, H1, rfl, I1.kept (t' := s1.toks) fun b o e => Heap.get?_push_of_some _ e, turn_tuple a _, ⟨_, Heap.get?_push_size _ rfl, rfl, rfl⟩, fr, q⟩
section
variable {K : Kw} {ρ : Rho} {H : Hp} {h : AH}
theorem wk_tup {a : Addr} {xs : List D} {vs : List V} (q : QT K ρ H a vs) (y : DVs K ρ H xs vs) : Wk K ρ H (Itt K a) xs none := by
  intro ρ' H' h' i e r _
  have q' := q.ext e
  have y' := DVs.ext e xs y
  refine ⟨fun hi => ⟨vs, q'.sq, by rw [← y.length, hi]; exact Nat.le_refl _⟩, fun x d hx hd => ?_⟩
  simp only [cur, Option.some.injEq] at hd; subst hd
  obtain ⟨v, hv, qv⟩ := y'.get hx
  refine ⟨⟨vs, v, q'.sq, hv⟩, fun v' H'' ⟨eH, hyl⟩ => ?_⟩
  subst eH
  have := hyl vs q'.sq
  rw [hv] at this; cases this
  exact ⟨Ext.refl _ _, r, qv⟩
theorem wk_lst {a : Addr} {xs : List D} {vs : List V} (q : ∀ ρ' H', Ext ρ H ρ' H' → SqL K H' a vs) (y : DVs K ρ H xs vs) : Wk K ρ H (Itl K a) xs none := by
  intro ρ' H' h' i e r _
  have q' := q ρ' H' e
  have y' := DVs.ext e xs y
  refine ⟨fun hi => ⟨vs, q', by rw [← y.length, hi]; exact Nat.le_refl _⟩, fun x d hx hd => ?_⟩
  simp only [cur, Option.some.injEq] at hd; subst hd
  obtain ⟨v, hv, qv⟩ := y'.get hx
  refine ⟨⟨vs, v, q', hv⟩, fun v' H'' ⟨eH, hyl⟩ => ?_⟩
  subst eH
  have := hyl vs q'
  rw [hv] at this; cases this
  exact ⟨Ext.refl _ _, r, qv⟩
theorem wk_ref {a : Addr} {xs : List D} {n : Nat} (hn : ρ.r[n]? = some a) : Wk K ρ H (Itl K a) xs (some n) := by
  intro ρ' H' h' i e r ok
  obtain ⟨ob, e1, ak⟩ := r.at' (e.get hn)
  cases ob with
  | dct kvs => simp [okL, e1] at ok
  | ids ks => simp [okL, e1] at ok
  | lst ds =>
    simp only [okL, e1, beq_iff_eq] at ok
    obtain ⟨vs, e2, y⟩ := ak
    have hS : SqL K H' a vs := .of e2
    refine ⟨fun hi => ⟨vs, hS, by rw [← y.length, hi, ok]; exact Nat.le_refl _⟩, fun x d hx hd => ?_⟩
    simp only [cur, e1] at hd
    obtain ⟨v, hv, qv⟩ := y.get hd
    refine ⟨⟨vs, v, hS, hv⟩, fun v' H'' ⟨eH, hyl⟩ => ?_⟩
    subst eH
    have := hyl vs hS
    rw [hv] at this; cases this
    exact ⟨Ext.refl _ _, r, qv⟩
end
theorem ri_seq {l : Expr} (hl : RE X l m) : RI X tg l (fun σ h => (m σ h).bind fun (x, h1) => (items x h1).bind fun xs => some (xs, (match x with | .ref n => some n | _ => none), h1)) :=
  (pi_seq hl).imp fun σ H R ⟨ρ, σd, h, xs, n, h', rs, rh, e, o⟩ => by
    cases ea : m σd h with
    | none => simp [ea] at e
    | some p =>
      obtain ⟨x, h1⟩ := p
      cases ei : items x h1 with
      | none => simp [ea, ei] at e
      | some ys =>
        simp only [ea, ei, Option.bind_some, Option.some.injEq, Prod.mk.injEq] at e
        obtain ⟨rfl, rfl, rfl⟩ := e
        refine ⟨ρ, σd, h, x, h1, rs, rh, ea, fun v H1 ρ1 e1 r1 q1 => ?_⟩
        cases x with
        | tup zs =>
          simp only [items, Option.some.injEq] at ei; subst ei
          obtain ⟨a, vs, rfl, z, y⟩ := q1.t
          exact ⟨a, vs, rfl, .inr ⟨z.sq, o _ H1 ρ1 e1 r1 (wk_tup z y)⟩⟩
        | lst zs =>
          simp only [items, Option.some.injEq] at ei; subst ei
          obtain ⟨a, vs, rfl, z, y⟩ := q1.l
          exact ⟨a, vs, rfl, .inl ⟨z.sq, o _ H1 ρ1 e1 r1 (wk_lst (fun ρ' H' e2 => (z.ext e2).sq) y)⟩⟩
        | rol zs =>
          simp only [items, Option.some.injEq] at ei; subst ei
          obtain ⟨a, vs, rfl, z, y⟩ := q1.o
          exact ⟨a, vs, rfl, .inl ⟨z.sq, o _ H1 ρ1 e1 r1 (wk_lst (fun ρ' H' e2 => (z.ext e2).sq) y)⟩⟩
        | ref k =>
          obtain ⟨a, rfl, z⟩ := q1.r
          obtain ⟨ob, e2, ak⟩ := r1.at' z
          cases ob with
          | dct kvs => simp [items, e2] at ei
          | ids ks => simp [items, e2] at ei
          | lst ds =>
            obtain ⟨vs, e3, y⟩ := ak
            exact ⟨a, vs, rfl, .inl ⟨.of e3, o _ H1 ρ1 e1 r1 (wk_ref z)⟩⟩
        | _ => simp [items] at ei

theorem wk_rng {K : Kw} {ρ : Rho} {H : Hp} {i j : Int} {xs : List D} {n : Nat} (e : rng i j = some xs) (hn : n = (j - i).toNat) : Wk K ρ H (Itr i n) xs none := by
  intro ρ' H' h' t e' r _
  have hl := (rng_V (K := K) (ρ := ρ') (H := H') e).2.2.1
  refine ⟨fun ht => by show n ≤ t; omega, fun x d hx hd => ?_⟩
  simp only [cur, Option.some.injEq] at hd; subst hd
  have ht := (List.getElem?_eq_some_iff.mp hx).1
  refine ⟨by show t < n; omega, fun v H'' ⟨eH, ev⟩ => ?_⟩
  subst eH; subst ev
  refine ⟨Ext.refl _ _, r, ?_⟩
  have : x = .int (i + (t : Nat)) := by
    unfold rng at e
    split at e
    case isFalse => cases e
    simp only [Option.some.injEq] at e; subst e
    simp only [List.getElem?_map] at hx
    rw [List.getElem?_range (by simpa using ht)] at hx
    simpa using hx.symm
  rw [this]; exact DV.int' _
theorem ri_rng1 {p1 : Pos} (hg : Gl X "range") (hm : X.mg "range" = none) (ha : RE X a ma) (hp : plainE a = true) :
    RI X tg (.Call (.Name "range" p) [a] [] pos) (fun σ h => (ma σ h).bind fun (x, h1) => match x with | .int i => (rng 0 i).bind fun xs => some (xs, none, h1) | _ => none) :=
  (pi_range1 hg hm (pa_cons ha pa_nil (star_cons hp _ _)) (star_cons hp _ _)).imp fun σ H R ⟨ρ, σd, h, xs, n, h', rs, rh, e, o⟩ => by
    cases ea : ma σd h with
    | none => simp [ea] at e
    | some p =>
      obtain ⟨x, h1⟩ := p
      cases x with
      | int i =>
        simp only [ea, Option.bind_some] at e
        cases er : rng 0 i with
        | none => simp [er] at e
        | some xs =>
          simp [er] at e
          obtain ⟨rfl, rfl, rfl⟩ := e
          refine ⟨ρ, σd, h, _, h1, rs, rh, ea, fun v H1 ρ1 e1 r1 q1 => ?_⟩
          have z := rng_V (K := X.kw) (ρ := ρ1) (H := H1) er
          exact ⟨i, by rw [q1.i], by omega, by omega, o _ H1 ρ1 e1 r1 (wk_rng er (by omega))⟩
      | _ => simp [ea] at e
theorem ri_rng2 (hg : Gl X "range") (hm : X.mg "range" = none) (ha : RE X a ma) (hp : plainE a = true) (hb : RE X b mb) (hp2 : plainE b = true) :
    RI X tg (.Call (.Name "range" p) [a, b] [] pos) (fun σ h => (ma σ h).bind fun (x, h1) => (mb σ h1).bind fun (y, h2) => match x, y with | .int i, .int j => (rng i j).bind fun xs => some (xs, none, h2) | _, _ => none) :=
  (pi_range2 hg hm (pa_cons ha (pa_cons hb pa_nil (star_cons hp2 _ _)) (star_cons hp _ _)) (by rw [star_cons hp, star_cons hp2]; rfl) (by rw [star_cons hp2]; rfl)).imp fun σ H R ⟨ρ, σd, h, xs, n, h', rs, rh, e, o⟩ => by
    cases ea : ma σd h with
    | none => simp [ea] at e
    | some p =>
      obtain ⟨x, h1⟩ := p
      cases eb : mb σd h1 with
      | none => simp [ea, eb] at e
      | some p =>
        obtain ⟨y, h2⟩ := p
        cases x with
        | int i =>
          cases y with
          | int j =>
            simp only [ea, eb, Option.bind_some] at e
            cases er : rng i j with
            | none => simp [er] at e
            | some xs =>
              simp [er] at e
              obtain ⟨rfl, rfl, rfl⟩ := e
              refine ⟨ρ, σd, h, _, h1, rs, rh, ea, fun v H1 ρ1 e1 r1 q1 => ⟨ρ1, σd, h1, _, h2, rs.ext e1, r1, eb, fun w H2 ρ2 e2 r2 q2 => ?_⟩⟩
              have z := rng_V (K := X.kw) (ρ := ρ2) (H := H2) er
              exact ⟨i, j, by rw [q1.i, q2.i], ⟨by omega, by omega, by omega, by omega⟩, o _ H2 ρ2 (e1.trans e2) r2 (wk_rng er rfl)⟩
          | _ => simp [ea, eb] at e
        | _ => cases y <;> simp [ea, eb] at e
/-- a new pair -/
theorem pair_new {K : Kw} {ρ : Rho} {H : Hp} {h : AH} {T : Addr} {x y : V} {d d' : D} (r : RepH K ρ H h) (n : H T = none) (q : DV K ρ H d x) (q' : DV K ρ H d' y) :
    Ext ρ H ρ (upd H T (.tup [x, y])) ∧ RepH K ρ (upd H T (.tup [x, y])) h ∧ DV K ρ (upd H T (.tup [x, y])) (.tup [d, d']) (.ref T) := by
  have e : Ext ρ H ρ (upd H T (.tup [x, y])) := Ext.fresh n
  refine ⟨e, r.fresh n, ?_⟩
  simp only [DV]
  exact ⟨T, _, rfl, .inl ⟨.inl upd_same, r.notMem n⟩, DVs.ext e _ (.cons q (.one q'))⟩
theorem wk_zip {K : Kw} {ρ : Rho} {H : Hp} {a b : Addr} {xs ys : List D} {vs ws : List V} (q : QT K ρ H a vs) (y : DVs K ρ H xs vs) (q' : QT K ρ H b ws) (y' : DVs K ρ H ys ws) :
    Wk K ρ H (RZ.ItzT K a b) ((xs.zip ys).map fun p => .tup [p.1, p.2]) none := by
  intro ρ' H' h' i e r _
  have z := q.ext e
  have z' := q'.ext e
  have w := DVs.ext e xs y
  have w' := DVs.ext e ys y'
  refine ⟨fun hi => ⟨vs, ws, z.sq, z'.sq, by simp at hi; rw [← y.length, ← y'.length]; omega⟩, fun x d hx hd => ?_⟩
  simp only [cur, Option.some.injEq] at hd; subst hd
  rw [List.getElem?_map] at hx
  cases hz : (xs.zip ys)[i]? with
  | none => simp [hz] at hx
  | some p =>
    obtain ⟨d1, d2⟩ := p
    simp [hz] at hx; subst hx
    obtain ⟨h1, h2⟩ := List.getElem?_zip_eq_some.mp hz
    obtain ⟨v1, g1, k1⟩ := w.get h1
    obtain ⟨v2, g2, k2⟩ := w'.get h2
    refine ⟨⟨vs, ws, v1, v2, z.sq, z'.sq, g1, g2⟩, fun v H'' ⟨T, x1, x2, ev, nT, eH, f1, f2⟩ => ?_⟩
    subst ev; subst eH
    have a1 := f1 vs z.sq
    have a2 := f2 ws z'.sq
    rw [g1] at a1; rw [g2] at a2
    cases a1; cases a2
    exact pair_new r nT k1 k2
theorem wk_zipM {K : Kw} {ρ : Rho} {H : Hp} {a b : Addr} {xs ys : List D} {vs ws : List V} (q : ∀ {ρ' H'}, Ext ρ H ρ' H' → SqL K H' a vs) (y : DVs K ρ H xs vs) (q' : QT K ρ H b ws) (y' : DVs K ρ H ys ws) :
    Wk K ρ H (ItzM K a b) ((xs.zip ys).map fun p => .tup [p.1, p.2]) none := by
  intro ρ' H' h' i e r _
  have z := q e
  have z' := q'.ext e
  have w := DVs.ext e xs y
  have w' := DVs.ext e ys y'
  refine ⟨fun hi => ⟨vs, ws, ⟨z, z'.sq⟩, by simp at hi; rw [← y.length, ← y'.length]; omega⟩, fun x d hx hd => ?_⟩
  simp only [cur, Option.some.injEq] at hd; subst hd
  rw [List.getElem?_map] at hx
  cases hz : (xs.zip ys)[i]? with
  | none => simp [hz] at hx
  | some p =>
    obtain ⟨d1, d2⟩ := p
    simp [hz] at hx; subst hx
    obtain ⟨h1, h2⟩ := List.getElem?_zip_eq_some.mp hz
    obtain ⟨v1, g1, k1⟩ := w.get h1
    obtain ⟨v2, g2, k2⟩ := w'.get h2
    refine ⟨⟨vs, ws, v1, v2, ⟨z, z'.sq⟩, g1, g2⟩, fun v H'' ⟨T, x1, x2, ev, nT, eH, f1, f2⟩ => ?_⟩
    subst ev; subst eH
    have a1 := f1 vs z
    have a2 := f2 ws z'.sq
    rw [g1] at a1; rw [g2] at a2
    cases a1; cases a2
    exact pair_new r nT k1 k2
theorem ri_zip {elts : List Expr} {kk : Nat} {tpos : Pos} (hg : Gl X "zip") (hm : X.mg "zip" = none) (ha : RE X a ma) (hp : plainE a = true) (hb : RE X b mb) (hp2 : plainE b = true) :
    RI X (.Tuple elts kk tpos) (.Call (.Name "zip" p) [a, b] [] pos) (fun σ h => (ma σ h).bind fun (x, h1) => (mb σ h1).bind fun (y, h2) => match x, y with
      | .tup xs, .tup ys => some ((xs.zip ys).map (fun p => .tup [p.1, p.2]), none, h2)
      | .lst xs, .tup ys => some ((xs.zip ys).map (fun p => .tup [p.1, p.2]), none, h2)
      | _, _ => none) :=
  (pi_zipD hg hm (pa_cons ha (pa_cons hb pa_nil (star_cons hp2 _ _)) (star_cons hp _ _)) (star_cons hp _ _) (star_any _ _ (by simp [hp2]))).imp fun σ H R ⟨ρ, σd, h, xs, n, h', rs, rh, e, o⟩ => by
    cases ea : ma σd h with
    | none => simp [ea] at e
    | some p =>
      obtain ⟨x, h1⟩ := p
      cases eb : mb σd h1 with
      | none => simp [ea, eb] at e
      | some p =>
        obtain ⟨y, h2⟩ := p
        cases x with
        | tup xs =>
          cases y with
          | tup ys =>
            simp only [ea, eb, Option.bind_some, Option.some.injEq, Prod.mk.injEq] at e
            obtain ⟨rfl, rfl, rfl⟩ := e
            refine ⟨ρ, σd, h, _, h1, rs, rh, ea, fun v H1 ρ1 e1 r1 q1 => ⟨ρ1, σd, h1, _, h2, rs.ext e1, r1, eb, fun w H2 ρ2 e2 r2 q2 => ?_⟩⟩
            obtain ⟨a, vs, rfl, z, y⟩ := (DV.ext e2 _ q1).t
            obtain ⟨b, ws, rfl, z', y'⟩ := q2.t
            exact ⟨a, b, vs, ws, rfl, .inl ⟨z.sq, z'.sq, o _ H2 ρ2 (e1.trans e2) r2 (wk_zip z y z' y')⟩⟩
          | _ => simp [ea, eb] at e
        | lst xs =>
          cases y with
          | tup ys =>
            simp only [ea, eb, Option.bind_some, Option.some.injEq, Prod.mk.injEq] at e
            obtain ⟨rfl, rfl, rfl⟩ := e
            refine ⟨ρ, σd, h, _, h1, rs, rh, ea, fun v H1 ρ1 e1 r1 q1 => ⟨ρ1, σd, h1, _, h2, rs.ext e1, r1, eb, fun w H2 ρ2 e2 r2 q2 => ?_⟩⟩
            obtain ⟨a, vs, rfl, z, y⟩ := (DV.ext e2 _ q1).l
            obtain ⟨b, ws, rfl, z', y'⟩ := q2.t
            exact ⟨a, b, vs, ws, rfl, .inr ⟨QL.sq (K := X.kw) z, z'.sq, o _ H2 ρ2 (e1.trans e2) r2 (wk_zipM (fun e => (QL.ext e z).sq) y z' y')⟩⟩
          | _ => simp [ea, eb] at e
        | _ => cases y <;> simp [ea, eb] at e
theorem wk_enum {K : Kw} {ρ : Rho} {H : Hp} {a : Addr} {xs : List D} {vs : List V} (q : ∀ ρ' H', Ext ρ H ρ' H' → SqL K H' a vs) (y : DVs K ρ H xs vs) :
    Wk K ρ H (Ite K a) (xs.mapIdx fun i d => .tup [.int i, d]) none := by
  intro ρ' H' h' i e r _
  have z := q ρ' H' e
  have w := DVs.ext e xs y
  refine ⟨fun hi => ⟨vs, z, by simp at hi; rw [← y.length]; omega⟩, fun x d hx hd => ?_⟩
  simp only [cur, Option.some.injEq] at hd; subst hd
  rw [List.getElem?_mapIdx] at hx
  cases hz : xs[i]? with
  | none => simp [hz] at hx
  | some d1 =>
    simp [hz] at hx; subst hx
    obtain ⟨v1, g1, k1⟩ := w.get hz
    refine ⟨⟨vs, v1, z, g1⟩, fun v H'' ⟨T, x1, ev, nT, eH, f1⟩ => ?_⟩
    subst ev; subst eH
    have a1 := f1 vs z
    rw [g1] at a1
    cases a1
    exact pair_new r nT (DV.int' _) k1
theorem wk_enumT {K : Kw} {ρ : Rho} {H : Hp} {a : Addr} {xs : List D} {vs : List V} (q : ∀ ρ' H', Ext ρ H ρ' H' → SqT K H' a vs) (y : DVs K ρ H xs vs) :
    Wk K ρ H (IteT K a) (xs.mapIdx fun i d => .tup [.int i, d]) none := by
  intro ρ' H' h' i e r _
  have z := q ρ' H' e
  have w := DVs.ext e xs y
  refine ⟨fun hi => ⟨vs, z, by simp at hi; rw [← y.length]; omega⟩, fun x d hx hd => ?_⟩
  simp only [cur, Option.some.injEq] at hd; subst hd
  rw [List.getElem?_mapIdx] at hx
  cases hz : xs[i]? with
  | none => simp [hz] at hx
  | some d1 =>
    simp [hz] at hx; subst hx
    obtain ⟨v1, g1, k1⟩ := w.get hz
    refine ⟨⟨vs, v1, z, g1⟩, fun v H'' ⟨T, x1, ev, nT, eH, f1⟩ => ?_⟩
    subst ev; subst eH
    have a1 := f1 vs z
    rw [g1] at a1
    cases a1
    exact pair_new r nT (DV.int' _) k1
theorem ri_enum {elts : List Expr} {kk : Nat} {tpos : Pos} (hg : Gl X "enumerate") (hm : X.mg "enumerate" = none) (ha : RE X a ma) (hp : plainE a = true) :
    RI X (.Tuple elts kk tpos) (.Call (.Name "enumerate" p) [a] [] pos) (fun σ h => (ma σ h).bind fun (x, h1) => match x with
      | .tup xs => some (xs.mapIdx (fun i d => .tup [.int i, d]), none, h1)
      | .lst xs => some (xs.mapIdx (fun i d => .tup [.int i, d]), none, h1)
      | .rol xs => some (xs.mapIdx (fun i d => .tup [.int i, d]), none, h1)
      | _ => none) :=
  (pi_enumT hg hm (pa_cons ha pa_nil (star_cons hp _ _)) (star_cons hp _ _)).imp fun σ H R ⟨ρ, σd, h, xs, n, h', rs, rh, e, o⟩ => by
    cases ea : ma σd h with
    | none => simp [ea] at e
    | some p =>
      obtain ⟨x, h1⟩ := p
      cases x with
      | tup xs =>
        simp only [ea, Option.bind_some, Option.some.injEq, Prod.mk.injEq] at e
        obtain ⟨rfl, rfl, rfl⟩ := e
        refine ⟨ρ, σd, h, _, h1, rs, rh, ea, fun v H1 ρ1 e1 r1 q1 => ?_⟩
        obtain ⟨a, vs, rfl, z, y⟩ := q1.t
        exact ⟨a, vs, rfl, .inr ⟨(z.sq : SqT X.K H1 a vs), o _ H1 ρ1 e1 r1 (wk_enumT (fun ρ' H' e2 => (z.ext e2).sq) y)⟩⟩
      | lst xs =>
        simp only [ea, Option.bind_some, Option.some.injEq, Prod.mk.injEq] at e
        obtain ⟨rfl, rfl, rfl⟩ := e
        refine ⟨ρ, σd, h, _, h1, rs, rh, ea, fun v H1 ρ1 e1 r1 q1 => ?_⟩
        obtain ⟨a, vs, rfl, z, y⟩ := q1.l
        exact ⟨a, vs, rfl, .inl ⟨(QL.sq (K := X.kw) z), o _ H1 ρ1 e1 r1 (wk_enum (fun ρ' H' e2 => (z.ext e2).sq) y)⟩⟩
      | rol xs =>
        simp only [ea, Option.bind_some, Option.some.injEq, Prod.mk.injEq] at e
        obtain ⟨rfl, rfl, rfl⟩ := e
        refine ⟨ρ, σd, h, _, h1, rs, rh, ea, fun v H1 ρ1 e1 r1 q1 => ?_⟩
        obtain ⟨a, vs, rfl, z, y⟩ := q1.o
        exact ⟨a, vs, rfl, .inl ⟨z.sq, o _ H1 ρ1 e1 r1 (wk_enum (fun ρ' H' e2 => (z.ext e2).sq) y)⟩⟩
      | _ => simp [ea] at e

/-! ### comprehensions -/
theorem wipe_get {σ : L2.St} {i : Nat} : ∀ {vs : List Nat}, (L2.wipe σ vs)[i]? = if i ∈ vs ∧ i < σ.length then some none else σ[i]?
  | [] => by simp [L2.wipe]
  | v :: vs => by
    unfold L2.wipe
    by_cases hi : i = v
    · subst hi
      by_cases hl : i < σ.length
      · rw [List.getElem?_set_self (by rw [wipe_length]; exact hl), if_pos ⟨by simp, hl⟩]
      · rw [List.getElem?_eq_none (by simp [wipe_length]; omega), if_neg (fun z => hl z.2), List.getElem?_eq_none (by omega)]
    · rw [List.getElem?_set_ne (Ne.symm hi), wipe_get (vs := vs)]
      simp [hi]
theorem wipeD_get {σ : Sl} {i : Nat} : ∀ {vs : List Nat}, (wipe σ vs).length = σ.length ∧ (wipe σ vs)[i]? = if i ∈ vs ∧ i < σ.length then some none else σ[i]?
  | [] => by simp [wipe]
  | v :: vs => by
    have hl' := (wipeD_get (σ := σ) (i := i) (vs := vs)).1
    unfold wipe
    refine ⟨by rw [List.length_set, hl'], ?_⟩
    by_cases hi : i = v
    · subst hi
      by_cases hl : i < σ.length
      · rw [List.getElem?_set_self (by rw [hl']; exact hl), if_pos ⟨by simp, hl⟩]
      · rw [List.getElem?_eq_none (by simp [hl']; omega), if_neg (fun z => hl z.2), List.getElem?_eq_none (by omega)]
    · rw [List.getElem?_set_ne (Ne.symm hi), (wipeD_get (vs := vs)).2]
      simp [hi]
theorem wipe_off {σ σ2 : L2.St} {vs is : List Nat} (h : Off is (L2.wipe σ vs) σ2) (hs : ∀ i ∈ is, i ∈ vs) : L2.wipe σ2 vs = L2.wipe σ vs := by
  apply List.ext_getElem?
  intro i
  rw [wipe_get, wipe_get]
  have hl : σ2.length = σ.length := by rw [h.1, wipe_length]
  rw [hl]
  by_cases hi : i ∈ vs ∧ i < σ.length
  · rw [if_pos hi, if_pos hi]
  · rw [if_neg hi, if_neg hi]
    by_cases hv : i ∈ vs
    · have : ¬ i < σ.length := fun z => hi ⟨hv, z⟩
      rw [List.getElem?_eq_none (by omega), List.getElem?_eq_none (by omega)]
    · rw [h.2 i fun z => hv (hs i z), wipe_get, if_neg hi]
theorem RepS.wipe {K : Kw} {ρ : Rho} {H : Hp} {σ : L2.St} {σd : Sl} (r : RepS K ρ H σ σd) (vs : List Nat) : RepS K ρ H (L2.wipe σ vs) (PyD.wipe σd vs) := by
  refine ⟨by rw [wipe_length, (wipeD_get (i := 0)).1, r.len], fun i d h => ?_⟩
  rw [(wipeD_get (i := i)).2] at h
  split at h
  · cases h
  · rename_i hn
    obtain ⟨v, e, q⟩ := r.val i d h
    exact ⟨v, by rw [wipe_get, if_neg (by rw [r.len]; exact hn)]; exact e, q⟩
theorem okL_none {len : Nat} {h : AH} : okL none len h = true := rfl
/-- [elt for tg in it if cond] -/
theorem tLc_imp {K : Kw} {mi : Sl → AH → Option (List D × Option Nat × AH)} {tgt : Tg} {mc : Sl → AH → Option (Bool × AH)} {me : Sl → AH → Option (D × AH)} {vs : List Nat} (hv : ∀ i ∈ slots tgt, i ∈ vs) (σ : L2.St) (H : Hp) (Q : VK)
    (q : tD K (fun σ h => (mi σ h).bind fun (xs, n, h1) => if xs.length ≤ lim then (compL (wipe σ vs) tgt n xs.length mc me xs 0 h1).bind fun (ds, h2) => some (.lst ds, h2) else none) σ H Q) :
    tLc (tI K mi) (gD K tgt) (tDT K mc) (tD K me) vs σ H Q := by
  obtain ⟨ρ, σd, h, d, h', rs, rh, e, o⟩ := q
  cases ei : mi σd h with
  | none => simp [ei] at e
  | some p =>
    obtain ⟨xs, n, h1⟩ := p
    simp only [ei, Option.bind_some] at e
    split at e
    case isFalse => cases e
    rename_i hz
    cases ec : compL (wipe σd vs) tgt n xs.length mc me xs 0 h1 with
    | none => simp [ec] at e
    | some p =>
      obtain ⟨ds, h2⟩ := p
      simp [ec] at e
      obtain ⟨rfl, rfl⟩ := e
      refine ⟨ρ, σd, h, xs, n, h1, rs, rh, ei, fun J H1 ρ1 e1 r1 wk D hD => ?_⟩
      have eh : Ext ρ1 H1 (ρ1.hide D) (L2.upd H1 D (.lst [])) := Ext.hide hD
      have nw1 : D ∉ ρ1.w := fun m => r1.notMem hD (.inr m)
      refine ⟨fun i m H => m = xs.length - i ∧ i ≤ xs.length ∧ ∃ ρ' hc acc vacc rest, Ext ρ1 H1 ρ' H ∧ D ∈ ρ'.w ∧ RepH K ρ' H hc ∧ H D = some (.lst vacc) ∧ RepS K ρ' H (L2.wipe σ vs) (wipe σd vs) ∧ DVs K ρ' H acc vacc ∧ acc.length ≤ i ∧
          compL (wipe σd vs) tgt n xs.length mc me (xs.drop i) i hc = some (rest, h2) ∧ acc ++ rest = ds,
        ⟨xs.length, by simp, Nat.zero_le _, ρ1.hide D, h1, [], [], ds, eh, List.mem_cons_self, r1.hide hD, upd_same, ((rs.ext e1).ext eh).wipe vs, .nil, Nat.le_refl _, by simpa using ec, rfl⟩, ?_⟩
      rintro i m H ⟨rfl, hi, ρ', hc, acc, vacc, rest, e3, dw, r3, hDl, rsc, qa, hacc, ecl, eds⟩
      by_cases hlt : i < xs.length
      · right
        rw [List.drop_eq_getElem_cons hlt] at ecl
        simp only [compL] at ecl
        split at ecl
        case isFalse => cases ecl
        rename_i ok
        cases ecu : cur n i xs[i] hc with
        | none => simp [ecu] at ecl
        | some y =>
          simp only [ecu, Option.bind_some] at ecl
          cases ept : put tgt y (wipe σd vs) with
          | none => simp [ept] at ecl
          | some σ1 =>
            simp only [ept, Option.bind_some] at ecl
            obtain ⟨_, wi⟩ := wk ρ' H hc i e3 r3 ok
            obtain ⟨go, yl⟩ := wi xs[i] y (List.getElem?_eq_getElem hlt) ecu
            refine ⟨go, fun H' => ∃ ρ' hc acc vacc rest, Ext ρ1 H1 ρ' H' ∧ D ∈ ρ'.w ∧ RepH K ρ' H' hc ∧ H' D = some (.lst vacc) ∧ RepS K ρ' H' (L2.wipe σ vs) (wipe σd vs) ∧ DVs K ρ' H' acc vacc ∧ acc.length ≤ i + 1 ∧
                compL (wipe σd vs) tgt n xs.length mc me (xs.drop (i + 1)) (i + 1) hc = some (rest, h2) ∧ acc ++ rest = ds, fun H' nx => ⟨xs.length - (i + 1), by omega, rfl, hlt, nx⟩, fun v H' hy => ?_⟩
            obtain ⟨e4, r4, q4⟩ := yl v H' hy
            refine ⟨ρ', wipe σd vs, hc, y, σ1, rsc.ext e4, r4, q4, ept, fun σ2 rs2 off => ⟨wipe_off off hv, ?_⟩⟩
            have nD : D ∉ ρ'.r := (r3.hid D dw).1
            have hD4 : H' D = some (.lst vacc) := e4.keep _ _ hDl nD
            cases ecc : mc σ1 hc with
            | none => simp [ecc] at ecl
            | some p =>
              obtain ⟨b, h3⟩ := p
              simp only [ecc, Option.bind_some] at ecl
              refine ⟨ρ', σ1, hc, b, h3, rs2, r4, ecc, fun H5 ρ5 e5 r5 => ?_⟩
              have hD5 : H5 D = some (.lst vacc) := e5.keep _ _ hD4 nD
              have dw5 : D ∈ ρ5.w := e5.hidden dw
              cases b with
              | false =>
                simp only [Bool.false_eq_true, if_false] at ecl ⊢
                exact ⟨ρ5, h3, acc, vacc, rest, e3.trans (e4.trans e5), dw5, r5, hD5, rsc.ext (e4.trans e5), DVs.ext (e4.trans e5) acc qa, by omega, ecl, eds⟩
              | true =>
                simp only [if_true] at ecl ⊢
                cases eel : me σ1 h3 with
                | none => simp [eel] at ecl
                | some p =>
                  obtain ⟨de, h4⟩ := p
                  simp only [eel, Option.bind_some] at ecl
                  cases ecr : compL (wipe σd vs) tgt n xs.length mc me (xs.drop (i + 1)) (i + 1) h4 with
                  | none => simp [ecr] at ecl
                  | some p =>
                    obtain ⟨rest', h5⟩ := p
                    simp only [ecr, Option.bind_some, Option.some.injEq, Prod.mk.injEq] at ecl
                    obtain ⟨rfl, rfl⟩ := ecl
                    refine ⟨ρ5, σ1, h3, de, h4, rs2.ext e5, r5, eel, fun w H6 ρ6 e6 r6 q6 => ?_⟩
                    have nD5 : D ∉ ρ5.r := (r5.hid D dw5).1
                    have hD6 : H6 D = some (.lst vacc) := e6.keep _ _ hD5 nD5
                    have dw6 : D ∈ ρ6.w := e6.hidden dw5
                    have ea : Ext ρ' H ρ6 H6 := e4.trans (e5.trans e6)
                    have qa6 := DVs.ext ea acc qa
                    have hl : vacc.length < lim := by rw [← qa6.length]; omega
                    refine ⟨vacc, hD6, by rw [lim_eq]; exact hl, ρ6, h4, acc ++ [de], vacc ++ [w], rest', (e3.trans ea).updw hD, dw6, r6.updw dw6, upd_same, (rsc.ext ea).updw dw6, DVs.upd (.inr dw6) _ (qa6.append (.one q6)), by simp; omega, ecr, by simpa using eds⟩
      · left
        have hie : i = xs.length := by omega
        subst hie
        rw [List.drop_length] at ecl
        simp only [compL] at ecl
        split at ecl
        case isFalse => cases ecl
        rename_i ok
        simp only [Option.some.injEq, Prod.mk.injEq] at ecl
        obtain ⟨rfl, rfl⟩ := ecl
        refine ⟨(wk ρ' H hc xs.length e3 r3 ok).1 rfl, ?_⟩
        rw [List.append_nil] at eds
        subst eds
        obtain ⟨ρf, ef, nf, hr, hw⟩ := e3.show hD (r3.hid D dw).1 nw1
        refine o _ H ρf (e1.trans ef) (r3.less hr hw) ?_
        simp only [DV]
        exact ⟨D, vacc, rfl, ⟨hDl, nf⟩, DVs.less hr hw acc qa⟩
end
end PyD

/-! PyD7: statements by data. -/
namespace PyD
open PySem PySem.Spec PyProof.Rows L2

/-- what is wanted of an exception with a number, where a def may raise -/
abbrev XR := Option (Int → Hp → Prop)
/-- told as an exception -/
def exOf : D → Option Int
  | .rol [.int n] => some n
  | _ => none
def EndR (ξ : XR) (K : Kw) (En : Ends) (d : D) (ρ : Rho) (H : Hp) : Prop := match ξ with
  | none => ∀ v, DV K ρ H d v → En.rt v H
  | some p => (match exOf d with
    | some n => p n H
    | none => ∀ v, DV K ρ H d v → En.rt v H)
/-- what is wanted behind a statement, by data -/
def EndD (ξ : XR) (K : Kw) (En : Ends) (f : Fl) (ρ : Rho) (σ : L2.St) (H : Hp) : Prop :=
  match f with
  | .nx => En.nx σ H
  | .bk => En.bk σ H
  | .ct => En.ct σ H
  | .rt d => EndR ξ K En d ρ H
theorem EndR.val {ξ : XR} {K : Kw} {En : Ends} {d : D} {ρ : Rho} {H : Hp} (h : EndR ξ K En d ρ H) (q : ξ = none ∨ exOf d = none) : ∀ v, DV K ρ H d v → En.rt v H := by
  unfold EndR at h
  cases ξ with
  | none => exact h
  | some p =>
    rcases q with q | q
    · cases q
    · rw [q] at h; exact h
theorem EndR.of {ξ : XR} {K : Kw} {En : Ends} {d : D} {ρ : Rho} {H : Hp} (q : ξ = none ∨ exOf d = none) (h : ∀ v, DV K ρ H d v → En.rt v H) : EndR ξ K En d ρ H := by
  unfold EndR
  cases ξ with
  | none => exact h
  | some p =>
    rcases q with q | q
    · cases q
    · rw [q]; exact h
theorem EndD.val {ξ : XR} {K : Kw} {En : Ends} {d : D} {ρ : Rho} {σ : L2.St} {H : Hp} (h : EndD ξ K En (.rt d) ρ σ H) (q : ξ = none ∨ exOf d = none) : ∀ v, DV K ρ H d v → En.rt v H := EndR.val h q
theorem EndD.of {ξ : XR} {K : Kw} {En : Ends} {d : D} {ρ : Rho} {σ : L2.St} {H : Hp} (q : ξ = none ∨ exOf d = none) (h : ∀ v, DV K ρ H d v → En.rt v H) : EndD ξ K En (.rt d) ρ σ H := EndR.of q h
abbrev Mst := Sl → AH → Option (Fl × Sl × AH)
def tS (ξ : XR) (K : Kw) (m : Mst) : TS := fun D σ H => ∃ ρ σd h f σd' h', RepS K ρ H σ σd ∧ RepH K ρ H h ∧ m σd h = some (f, σd', h') ∧
  ∀ σ' H' ρ', Ext ρ H ρ' H' → RepS K ρ' H' σ' σd' → RepH K ρ' H' h' → EndD ξ K D f ρ' σ' H'
abbrev RS (ξ : XR) (X : Cx) (st : Stmt) (m : Mst) : Prop := PS X st (tS ξ X.kw m)
abbrev RSs (ξ : XR) (X : Cx) (st : List Stmt) (m : Mst) : Prop := PSs X st (tS ξ X.kw m)
/-! ### the syntax's side conditions -/
def notComp : Expr → Bool
  | .ListComp .. => false
  | .SetComp .. => false
  | .DictComp .. => false
  | _ => true
theorem swaps_no {e : Expr} (h : notComp e = true) (t : Option Expr) (l : Nat) (env : Env) : swapsWith e t l env = pure false := by
  cases e <;> first | rfl | simp [notComp] at h
theorem folded_no {e : Expr} (h : plainE e = true) (h2 : (match e with | .Set .. => false | _ => true) = true) (env : Env) (x : Value) : foldedSetIterable e env x = pure x := by
  cases e <;> first | rfl | simp at h2
section
variable {ξ : XR} {X : Cx} {e a b : Expr} {es : List Expr} {pos p : Pos} {m ma mb mc : Sl → AH → Option (D × AH)} {st : Stmt} {sts : List Stmt} {ms ms' : Mst}
theorem rss_nil : RSs ξ X [] (fun σ h => some (.nx, σ, h)) := pss_nil.imp fun D σ H ⟨ρ, σd, h, f, σd', h', rs, rh, e, o⟩ => by
  simp only [Option.some.injEq, Prod.mk.injEq] at e
  obtain ⟨rfl, rfl, rfl⟩ := e
  exact o σ H ρ (Ext.refl _ _) rs rh
theorem rss_cons (h1 : RS ξ X st ms) (h2 : RSs ξ X sts ms') : RSs ξ X (st :: sts) (fun σ h => (ms σ h).bind fun (f, σ1, h1) => match f with
    | .nx => ms' σ1 h1
    | f => some (f, σ1, h1)) := (pss_cons h1 h2).imp fun D σ H ⟨ρ, σd, h, f, σd', h', rs, rh, e, o⟩ => by
  cases ea : ms σd h with
  | none => simp [ea] at e
  | some p =>
    obtain ⟨f1, σ1, h1⟩ := p
    refine ⟨ρ, σd, h, f1, σ1, h1, rs, rh, ea, fun σ' H' ρ' e1 rs1 r1 => ?_⟩
    cases f1 with
    | nx =>
      simp only [ea, Option.bind_some] at e
      exact ⟨ρ', σ1, h1, f, σd', h', rs1, r1, e, fun σ2 H2 ρ2 e2 rs2 r2 => o σ2 H2 ρ2 (e1.trans e2) rs2 r2⟩
    | rt d =>
      simp only [ea, Option.bind_some, Option.some.injEq, Prod.mk.injEq] at e
      obtain ⟨rfl, rfl, rfl⟩ := e
      exact o σ' H' ρ' e1 rs1 r1
    | bk =>
      simp only [ea, Option.bind_some, Option.some.injEq, Prod.mk.injEq] at e
      obtain ⟨rfl, rfl, rfl⟩ := e
      exact o σ' H' ρ' e1 rs1 r1
    | ct =>
      simp only [ea, Option.bind_some, Option.some.injEq, Prod.mk.injEq] at e
      obtain ⟨rfl, rfl, rfl⟩ := e
      exact o σ' H' ρ' e1 rs1 r1
theorem rs_pass : RS ξ X (.Pass pos) (fun σ h => some (.nx, σ, h)) := ps_pass.imp fun D σ H ⟨ρ, σd, h, f, σd', h', rs, rh, e, o⟩ => by
  simp only [Option.some.injEq, Prod.mk.injEq] at e
  obtain ⟨rfl, rfl, rfl⟩ := e
  exact o σ H ρ (Ext.refl _ _) rs rh
theorem rs_brk : RS ξ X (.Break pos) (fun σ h => some (.bk, σ, h)) := ps_break.imp fun D σ H ⟨ρ, σd, h, f, σd', h', rs, rh, e, o⟩ => by
  simp only [Option.some.injEq, Prod.mk.injEq] at e
  obtain ⟨rfl, rfl, rfl⟩ := e
  exact o σ H ρ (Ext.refl _ _) rs rh
theorem rs_cnt : RS ξ X (.Continue pos) (fun σ h => some (.ct, σ, h)) := ps_continue.imp fun D σ H ⟨ρ, σd, h, f, σd', h', rs, rh, e, o⟩ => by
  simp only [Option.some.injEq, Prod.mk.injEq] at e
  obtain ⟨rfl, rfl, rfl⟩ := e
  exact o σ H ρ (Ext.refl _ _) rs rh
theorem rs_retN : RS ξ X (.Return none pos) (fun σ h => some (.rt .non, σ, h)) := ps_retN.imp fun D σ H ⟨ρ, σd, h, f, σd', h', rs, rh, e, o⟩ => by
  simp only [Option.some.injEq, Prod.mk.injEq] at e
  obtain ⟨rfl, rfl, rfl⟩ := e
  exact EndD.val (o σ H ρ (Ext.refl _ _) rs rh) (.inr rfl) _ DV.non'
theorem rs_ret (he : RE X e m) : RS none X (.Return (some e) pos) (fun σ h => (m σ h).bind fun (d, h1) => some (.rt d, σ, h1)) := (ps_ret he).imp fun D σ H ⟨ρ, σd, h, f, σd', h', rs, rh, e, o⟩ => by
  cases ea : m σd h with
  | none => simp [ea] at e
  | some p =>
    obtain ⟨d, h1⟩ := p
    simp [ea] at e
    obtain ⟨rfl, rfl, rfl⟩ := e
    exact ⟨ρ, σd, h, d, h1, rs, rh, ea, fun v H1 ρ1 e1 r1 q1 => EndD.val (o σ H1 ρ1 e1 (rs.ext e1) r1) (.inl rfl) v q1⟩
theorem rs_expr (hn : notComp e = true) (he : RE X e m) : RS ξ X (.Expr e pos) (fun σ h => (m σ h).bind fun (_, h1) => some (.nx, σ, h1)) := (ps_expr he (swaps_no hn _ _ _)).imp fun D σ H ⟨ρ, σd, h, f, σd', h', rs, rh, e, o⟩ => by
  cases ea : m σd h with
  | none => simp [ea] at e
  | some p =>
    obtain ⟨d, h1⟩ := p
    simp [ea] at e
    obtain ⟨rfl, rfl, rfl⟩ := e
    exact ⟨ρ, σd, h, d, h1, rs, rh, ea, fun v H1 ρ1 e1 r1 q1 => o σ H1 ρ1 e1 (rs.ext e1) r1⟩
theorem rs_if {c : Expr} {sa sb : List Stmt} (hc : RT X c (tstM mc)) (ha : RSs ξ X sa ms) (hb : RSs ξ X sb ms') : RS ξ X (.If c sa sb pos) (fun σ h => (tstM mc σ h).bind fun (k, h1) => if k then ms σ h1 else ms' σ h1) :=
  (ps_if hc ha hb).imp fun D σ H ⟨ρ, σd, h, f, σd', h', rs, rh, e, o⟩ => by
    cases ea : tstM mc σd h with
    | none => simp [ea] at e
    | some p =>
      obtain ⟨k, h1⟩ := p
      refine ⟨ρ, σd, h, k, h1, rs, rh, ea, fun H1 ρ1 e1 r1 => ?_⟩
      cases k with
      | true =>
        simp only [ea, Option.bind_some, if_true] at e
        rw [if_pos rfl]
        exact ⟨ρ1, σd, h1, f, σd', h', rs.ext e1, r1, e, fun σ2 H2 ρ2 e2 rs2 r2 => o σ2 H2 ρ2 (e1.trans e2) rs2 r2⟩
      | false =>
        simp only [ea, Option.bind_some, Bool.false_eq_true, if_false] at e
        rw [if_neg Bool.false_ne_true]
        exact ⟨ρ1, σd, h1, f, σd', h', rs.ext e1, r1, e, fun σ2 H2 ρ2 e2 rs2 r2 => o σ2 H2 ρ2 (e1.trans e2) rs2 r2⟩
/-- name = value, by a reading of the value -/
theorem tAsg_imp {i : Nat} {te : TE} (ht : ∀ σ H Q, tD X.kw m σ H Q → te σ H Q) (D : Ends) (σ : L2.St) (H : Hp) (q : tS ξ X.kw (fun σ h => (m σ h).bind fun (d, h1) => some (.nx, σ.set i (some d), h1)) D σ H) : tAsg te (gName i) D σ H := by
  obtain ⟨ρ, σd, h, f, σd', h', rs, rh, e, o⟩ := q
  cases ea : m σd h with
  | none => simp [ea] at e
  | some p =>
    obtain ⟨d, h1⟩ := p
    simp [ea] at e
    obtain ⟨rfl, rfl, rfl⟩ := e
    exact ht _ _ _ ⟨ρ, σd, h, d, h1, rs, rh, ea, fun v H1 ρ1 e1 r1 q1 => o _ H1 ρ1 e1 ((rs.ext e1).set q1) r1⟩
theorem rs_set {i : Nat} {x : Str} {pos' : Pos} (hN : X.N.Nodup) (hi : X.N[i]? = some x) (hx : Loc X.env.scope x) (hf : X.fn x = true ∨ X.env.scope.names.lookup x = some .local) (he : RE X e m) (hs : swapsWith e (some (.Name x pos')) pos.line X.env = pure false) :
    RS ξ X (.Assign [.Name x pos'] e pos) (fun σ h => (m σ h).bind fun (d, h1) => some (.nx, σ.set i (some d), h1)) :=
  (ps_set hN hi hx he hs hf).imp fun D σ H q => tAsg_imp (fun _ _ _ z => z) D σ H q
theorem rs_asg {tg : Expr} {t : Tg} (he : RE X e m) (hg : RG X tg t) (hp : plainE tg = true) (hs : swapsWith e (some tg) pos.line X.env = pure false) (hw : swappedStores [tg] e X.env = pure none) :
    RS ξ X (.Assign [tg] e pos) (fun σ h => (m σ h).bind fun (d, h1) => (put t d σ).bind fun σ1 => some (.nx, σ1, h1)) :=
  (ps_asg (pos := pos) he hg (show swapsWithSole [tg] e pos.line X.env = pure false from hs) hw (by rw [each_cons hp]; rfl)).imp fun D σ H ⟨ρ, σd, h, f, σd', h', rs, rh, e, o⟩ => by
    cases ea : m σd h with
    | none => simp [ea] at e
    | some p =>
      obtain ⟨d, h1⟩ := p
      cases ep : put t d σd with
      | none => simp [ea, ep] at e
      | some σ1 =>
        simp [ea, ep] at e
        obtain ⟨rfl, rfl, rfl⟩ := e
        exact ⟨ρ, σd, h, d, h1, rs, rh, ea, fun v H1 ρ1 e1 r1 q1 => ⟨ρ1, σd, h1, d, σ1, rs.ext e1, r1, q1, ep, fun σ' rs' _ => o σ' H1 ρ1 e1 rs' r1⟩⟩
theorem rs_par2 {i j : Nat} {x y : Str} {px py pt : Pos} {kt k2 pt2} (hc : X.calm = true) (hN : X.N.Nodup) (hi : X.N[i]? = some x) (hj : X.N[j]? = some y) (hij : i ≠ j)
    (hx : X.env.scope.names.lookup x = some .local) (hy : X.env.scope.names.lookup y = some .local) (ha : RE X a ma) (hb : RE X b mb) (hp : plainE a = true) (hp2 : plainE b = true)
    (hw : swappedStores [.Tuple [.Name x px, .Name y py] kt pt] (.Tuple [a, b] k2 pt2) X.env = pure (some [x, y])) :
    RS ξ X (.Assign [.Tuple [.Name x px, .Name y py] kt pt] (.Tuple [a, b] k2 pt2) pos) (fun σ h => (ma σ h).bind fun (x, h1) => (mb σ h1).bind fun (y, h2) => some (.nx, (σ.set i (some x)).set j (some y), h2)) :=
  (ps_par hc hN hi hj hij hx hy (pa_cons ha (pa_cons hb pa_nil (star_cons hp2 _ _)) (star_cons hp _ _)) hw rfl).imp fun D σ H ⟨ρ, σd, h, f, σd', h', rs, rh, e, o⟩ => by
    cases ea : ma σd h with
    | none => simp [ea] at e
    | some p =>
      obtain ⟨u, h1⟩ := p
      cases eb : mb σd h1 with
      | none => simp [ea, eb] at e
      | some p =>
        obtain ⟨w, h2⟩ := p
        simp [ea, eb] at e
        obtain ⟨rfl, rfl, rfl⟩ := e
        exact ⟨ρ, σd, h, u, h1, rs, rh, ea, fun v1 H1 ρ1 e1 r1 q1 => ⟨ρ1, σd, h1, w, h2, rs.ext e1, r1, eb, fun v2 H2 ρ2 e2 r2 q2 => ⟨v1, v2, rfl, o _ H2 ρ2 (e1.trans e2) (((rs.ext (e1.trans e2)).set (DV.ext e2 _ q1)).set q2) r2⟩⟩⟩
theorem rs_par3 {i j l : Nat} {x y z : Str} {c : Expr} {px py pz pt : Pos} {kt k2 pt2} (hc : X.calm = true) (hN : X.N.Nodup) (hi : X.N[i]? = some x) (hj : X.N[j]? = some y) (hl : X.N[l]? = some z) (hij : i ≠ j) (hil : i ≠ l) (hjl : j ≠ l)
    (hx : X.env.scope.names.lookup x = some .local) (hy : X.env.scope.names.lookup y = some .local) (hz : X.env.scope.names.lookup z = some .local) (ha : RE X a ma) (hb : RE X b mb) (hcc : RE X c mc) (hp : plainE a = true) (hp2 : plainE b = true) (hp3 : plainE c = true)
    (hw : swappedStores [.Tuple [.Name x px, .Name y py, .Name z pz] kt pt] (.Tuple [a, b, c] k2 pt2) X.env = pure (some [x, y, z])) :
    RS ξ X (.Assign [.Tuple [.Name x px, .Name y py, .Name z pz] kt pt] (.Tuple [a, b, c] k2 pt2) pos) (fun σ h => (ma σ h).bind fun (x, h1) => (mb σ h1).bind fun (y, h2) => (mc σ h2).bind fun (z, h3) => some (.nx, ((σ.set i (some x)).set j (some y)).set l (some z), h3)) :=
  (ps_par3 hc hN hi hj hl hij hil hjl hx hy hz (pa_cons ha (pa_cons hb (pa_cons hcc pa_nil (star_cons hp3 _ _)) (star_cons hp2 _ _)) (star_cons hp _ _)) hw rfl).imp fun D σ H ⟨ρ, σd, h, f, σd', h', rs, rh, e, o⟩ => by
    cases ea : ma σd h with
    | none => simp [ea] at e
    | some p =>
      obtain ⟨u, h1⟩ := p
      cases eb : mb σd h1 with
      | none => simp [ea, eb] at e
      | some p =>
        obtain ⟨w, h2⟩ := p
        cases ec : mc σd h2 with
        | none => simp [ea, eb, ec] at e
        | some p =>
          obtain ⟨t, h3⟩ := p
          simp [ea, eb, ec] at e
          obtain ⟨rfl, rfl, rfl⟩ := e
          exact ⟨ρ, σd, h, u, h1, rs, rh, ea, fun v1 H1 ρ1 e1 r1 q1 => ⟨ρ1, σd, h1, w, h2, rs.ext e1, r1, eb, fun v2 H2 ρ2 e2 r2 q2 => ⟨ρ2, σd, h2, t, h3, rs.ext (e1.trans e2), r2, ec, fun v3 H3 ρ3 e3 r3 q3 => ⟨v1, v2, v3, rfl,
            o _ H3 ρ3 (e1.trans (e2.trans e3)) ((((rs.ext (e1.trans (e2.trans e3))).set (DV.ext (e2.trans e3) _ q1)).set (DV.ext e3 _ q2)).set q3) r3⟩⟩⟩⟩
theorem rs_aug {i : Nat} {x : Str} {pos' : Pos} {op : Bop} (hop : op = .add ∨ op = .sub) (hN : X.N.Nodup) (hi : X.N[i]? = some x) (hx : Loc X.env.scope x) (hf : X.fn x = true ∨ X.env.scope.names.lookup x = some .local) (he : RE X e m) :
    RS ξ X (.AugAssign (.Name x pos') (bopP op) e pos) (fun σ h => match σ[i]? with
      | some (some (.int x)) => (m σ h).bind fun (y, h1) => (augF op x y).bind fun z => some (.nx, σ.set i (some z), h1)
      | _ => none) := by
  have core : ∀ (g : Int → Int → Int), (∀ a b, augF op a (.int b) = some (.int (g a b))) → ∀ D σ H, tS ξ X.kw (fun σ h => match σ[i]? with
      | some (some (.int x)) => (m σ h).bind fun (y, h1) => (augF op x y).bind fun z => some (.nx, σ.set i (some z), h1)
      | _ => none) D σ H → tAug i (tD X.kw m) (ipI g) D σ H := by
    intro g hg D σ H ⟨ρ, σd, h, f, σd', h', rs, rh, e, o⟩
    cases es : σd[i]? with
    | none => simp [es] at e
    | some w =>
      cases w with
      | none => simp [es] at e
      | some w =>
        cases w with
        | int z =>
          cases ea : m σd h with
          | none => simp [es, ea] at e
          | some p =>
            obtain ⟨y, h1⟩ := p
            cases y with
            | int y =>
              obtain ⟨v, ev, qv⟩ := rs.val i _ es
              simp only [es, ea, hg, Option.bind_some, Option.some.injEq, Prod.mk.injEq] at e
              obtain ⟨rfl, rfl, rfl⟩ := e
              refine ⟨v, ev, ρ, σd, h, _, h1, rs, rh, ea, fun u H1 ρ1 e1 r1 q1 => ⟨z, y, qv.i, q1.i, o _ H1 ρ1 e1 ((rs.ext e1).set (DV.int' _)) r1⟩⟩
            | _ => rcases hop with rfl | rfl <;> simp [es, ea, augF] at e
        | _ => simp [es] at e
  rcases hop with rfl | rfl
  · exact (ps_aug hN hi hx he ip_add hf).imp (core (fun a b => a + b) fun a b => rfl)
  · exact (ps_aug hN hi hx he ip_sub hf).imp (core (fun a b => a - b) fun a b => rfl)
theorem rs_setIx {o i : Expr} {mo mi : Sl → AH → Option (D × AH)} {tpos : Pos} (hv : RE X e m) (ho : RE X o mo) (hi : RE X i mi) (hp : plainE i = true) (hn : notComp e = true) :
    RS ξ X (.Assign [.Subscript o i tpos] e pos) (fun σ h => (m σ h).bind fun (d, h1) => (mo σ h1).bind fun (x, h2) => (mi σ h2).bind fun (y, h3) => match x, y with
      | .ref n, .int k => (match h3[n]? with
        | some (.lst ds) => (place ds.length k).bind fun j => some (.nx, σ, h3.set n (.lst (ds.set j d)))
        | _ => none)
      | _, _ => none) := by
  have hasg : ∀ v, assign (.Subscript o i tpos) X.env v = (do
      let ov ← holding [v] (eval o X.env)
      let iv ← holding [v, ov] (eval i X.env)
      standAt tpos
      holding [v, ov, iv] (setItem ov iv v)
      release [v, ov, iv] []) := by
    intro v
    cases i <;> first | rfl | simp [plainE] at hp
  have hsw : swappedStores [.Subscript o i tpos] e X.env = pure none := by cases e <;> rfl
  refine (ps_asg (pos := pos) hv (pg_sub ho hi set_list hasg) (show swapsWith e (some (.Subscript o i tpos)) pos.line X.env = pure false from swaps_no hn _ _ _) hsw rfl).imp fun D σ H ⟨ρ, σd, h, f, σd', h', rs, rh, e, o⟩ => ?_
  cases ea : m σd h with
  | none => simp [ea] at e
  | some p =>
    obtain ⟨d, h1⟩ := p
    cases eb : mo σd h1 with
    | none => simp [ea, eb] at e
    | some p =>
      obtain ⟨x, h2⟩ := p
      cases ec : mi σd h2 with
      | none => simp [ea, eb, ec] at e
      | some p =>
        obtain ⟨y, h3⟩ := p
        cases x with
        | ref n =>
          cases y with
          | int k =>
            cases en : h3[n]? with
            | none => simp [ea, eb, ec, en] at e
            | some ob =>
              cases ob with
              | dct kvs => simp [ea, eb, ec, en] at e
              | ids ks => simp [ea, eb, ec, en] at e
              | lst ds =>
                cases ej : place ds.length k with
                | none => simp [ea, eb, ec, en, ej] at e
                | some j =>
                  simp [ea, eb, ec, en, ej] at e
                  obtain ⟨rfl, rfl, rfl⟩ := e
                  refine ⟨ρ, σd, h, d, h1, rs, rh, ea, fun v H1 ρ1 e1 r1 q1 => ⟨ρ1, σd, h1, _, h2, rs.ext e1, r1, eb, fun w H2 ρ2 e2 r2 q2 => ⟨ρ2, σd, h2, _, h3, rs.ext (e1.trans e2), r2, ec, fun u H3 ρ3 e3 r3 q3 => ?_⟩⟩⟩
                  obtain ⟨l, rfl, hl⟩ := (DV.ext e3 _ q2).r
                  obtain ⟨o2, e5, ok2⟩ := r3.at' hl
                  rw [en] at e5; cases e5
                  obtain ⟨vs, e6, yl⟩ := ok2
                  refine ⟨l, vs, k, j, rfl, q3.i, e6, by rw [← yl.length]; exact ej, ?_⟩
                  have em : Ext ρ3 H3 ρ3 (L2.upd H3 l (.lst (vs.set j v))) := Ext.mut (List.mem_of_getElem? hl)
                  have et := e1.trans (e2.trans (e3.trans em))
                  exact o _ _ ρ3 et (rs.ext et) (r3.set hl (yl.set (DV.ext (e2.trans e3) _ q1) j))
          | _ => simp [ea, eb, ec] at e
        | _ => cases y <;> simp [ea, eb, ec] at e
/-! ### loops -/
theorem rs_while {c : Expr} {body : List Stmt} {fuel : Nat} (hp : PassesOwn (model X.prog X.w) X.A X.env X.xe) (hc : RT X c (tstM mc)) (hb : RSs ξ X body ms) : RS ξ X (.While c body [] pos) (fun σ h => whileF (tstM mc) ms fuel σ h) :=
  (ps_while hp hc hb).imp fun D σ H ⟨ρ, σd, h, f, σd', h', rs, rh, e, o⟩ => by
    refine ⟨fun m σ H' => ∃ ρ' sd hc, Ext ρ H ρ' H' ∧ RepS X.kw ρ' H' σ sd ∧ RepH X.kw ρ' H' hc ∧ whileF (tstM mc) ms m sd hc = some (f, σd', h'), ⟨fuel, ρ, σd, h, Ext.refl _ _, rs, rh, e⟩, ?_⟩
    rintro n σ1 H1 ⟨ρ1, sd, hc, e1, rs1, r1, ew⟩
    cases n with
    | zero => simp [whileF] at ew
    | succ n =>
      simp only [whileF] at ew
      cases ec : tstM mc sd hc with
      | none => simp only [ec, Option.bind_none] at ew; cases ew
      | some p =>
        obtain ⟨k, h2⟩ := p
        simp only [ec, Option.bind_some] at ew
        refine ⟨ρ1, sd, hc, k, h2, rs1, r1, ec, fun H2 ρ2 e2 r2 => ?_⟩
        cases k with
        | false =>
          simp only [Bool.false_eq_true, if_false, Option.some.injEq, Prod.mk.injEq] at ew ⊢
          obtain ⟨rfl, rfl, rfl⟩ := ew
          exact o σ1 H2 ρ2 (e1.trans e2) (rs1.ext e2) r2
        | true =>
          simp only [if_true] at ew ⊢
          cases eb : ms sd h2 with
          | none => simp [eb] at ew
          | some p =>
            obtain ⟨f3, s3, h3⟩ := p
            simp only [eb, Option.bind_some] at ew
            refine ⟨fun σ' H' => ∃ ρ' sd hc, Ext ρ H ρ' H' ∧ RepS X.kw ρ' H' σ' sd ∧ RepH X.kw ρ' H' hc ∧ whileF (tstM mc) ms n sd hc = some (f, σd', h'), fun σ' H' z => ⟨n, Nat.lt_succ_self _, z⟩,
              ρ2, sd, h2, f3, s3, h3, rs1.ext e2, r2, eb, fun σ' H' ρ' e3 rs3 r3 => ?_⟩
            have et := e1.trans (e2.trans e3)
            cases f3 with
            | nx => exact ⟨ρ', s3, h3, et, rs3, r3, ew⟩
            | ct => exact ⟨ρ', s3, h3, et, rs3, r3, ew⟩
            | bk =>
              simp only [Option.some.injEq, Prod.mk.injEq] at ew
              obtain ⟨rfl, rfl, rfl⟩ := ew
              exact o σ' H' ρ' et rs3 r3
            | rt d =>
              simp only [Option.some.injEq, Prod.mk.injEq] at ew
              obtain ⟨rfl, rfl, rfl⟩ := ew
              exact o σ' H' ρ' et rs3 r3
theorem rs_for {tg iter : Expr} {body : List Stmt} {t : Tg} {mi : Sl → AH → Option (List D × Option Nat × AH)} (hp : PassesOwn (model X.prog X.w) X.A X.env X.xe) (hc : X.calm = true) (hi : RI X tg iter mi) (hg : RG X tg t) (hb : RSs ξ X body ms)
    (hs : ∀ x, foldedSetIterable iter X.env x = pure x) : RS ξ X (.For tg iter body [] pos) (fun σ h => (mi σ h).bind fun (xs, n, h1) => forL t n xs.length ms xs 0 σ h1) :=
  (ps_for hp hc hi hg hb hs).imp fun D σ H ⟨ρ, σd, h, f, σd', h', rs, rh, e, o⟩ => by
    cases ei : mi σd h with
    | none => simp [ei] at e
    | some p =>
      obtain ⟨xs, n, h1⟩ := p
      simp only [ei, Option.bind_some] at e
      refine ⟨ρ, σd, h, xs, n, h1, rs, rh, ei, fun J H1 ρ1 e1 r1 wk => ?_⟩
      refine ⟨fun i m σ H' => m = xs.length - i ∧ i ≤ xs.length ∧ ∃ ρ' sd hc, Ext ρ1 H1 ρ' H' ∧ RepS X.kw ρ' H' σ sd ∧ RepH X.kw ρ' H' hc ∧ forL t n xs.length ms (xs.drop i) i sd hc = some (f, σd', h'),
        ⟨xs.length, by simp, Nat.zero_le _, ρ1, σd, h1, Ext.refl _ _, rs.ext e1, r1, by simpa using e⟩, ?_⟩
      rintro i m σ2 H2 ⟨rfl, hi, ρ2, sd, hc, e2, rs2, r2, ew⟩
      by_cases hlt : i < xs.length
      · right
        rw [List.drop_eq_getElem_cons hlt] at ew
        simp only [forL] at ew
        split at ew
        case isFalse => cases ew
        rename_i ok
        cases ecu : cur n i xs[i] hc with
        | none => simp [ecu] at ew
        | some y =>
          simp only [ecu, Option.bind_some] at ew
          cases ept : put t y sd with
          | none => simp [ept] at ew
          | some s1 =>
            simp only [ept, Option.bind_some] at ew
            cases eb : ms s1 hc with
            | none => simp [eb] at ew
            | some p =>
              obtain ⟨f3, s3, h3⟩ := p
              simp only [eb, Option.bind_some] at ew
              obtain ⟨_, wi⟩ := wk ρ2 H2 hc i e2 r2 ok
              obtain ⟨go, yl⟩ := wi xs[i] y (List.getElem?_eq_getElem hlt) ecu
              refine ⟨go, fun σ' H' => ∃ ρ' sd hc, Ext ρ1 H1 ρ' H' ∧ RepS X.kw ρ' H' σ' sd ∧ RepH X.kw ρ' H' hc ∧ forL t n xs.length ms (xs.drop (i + 1)) (i + 1) sd hc = some (f, σd', h'), fun σ' H' z => ⟨xs.length - (i + 1), by omega, rfl, hlt, z⟩, fun v H' hy => ?_⟩
              obtain ⟨e4, r4, q4⟩ := yl v H' hy
              refine ⟨ρ2, sd, hc, y, s1, rs2.ext e4, r4, q4, ept, fun σ' rs' _ => ⟨ρ2, s1, hc, f3, s3, h3, rs', r4, eb, fun σ5 H5 ρ5 e5 rs5 r5 => ?_⟩⟩
              have et := e2.trans (e4.trans e5)
              cases f3 with
              | nx => exact ⟨ρ5, s3, h3, et, rs5, r5, ew⟩
              | ct => exact ⟨ρ5, s3, h3, et, rs5, r5, ew⟩
              | bk =>
                simp only [Option.some.injEq, Prod.mk.injEq] at ew
                obtain ⟨rfl, rfl, rfl⟩ := ew
                exact o σ5 H5 ρ5 (e1.trans et) rs5 r5
              | rt d =>
                simp only [Option.some.injEq, Prod.mk.injEq] at ew
                obtain ⟨rfl, rfl, rfl⟩ := ew
                exact o σ5 H5 ρ5 (e1.trans et) rs5 r5
      · left
        have hie : i = xs.length := by omega
        subst hie
        rw [List.drop_length] at ew
        simp only [forL] at ew
        split at ew
        case isFalse => cases ew
        rename_i ok
        simp only [Option.some.injEq, Prod.mk.injEq] at ew
        obtain ⟨rfl, rfl, rfl⟩ := ew
        exact ⟨(wk ρ2 H2 hc xs.length e2 r2 ok).1 rfl, o σ2 H2 ρ2 (e1.trans e2) rs2 r2⟩
end
end PyD

/-! PyE6: dicts whose keys are tuples: {k: v}, k in d, d[k] = v. -/
namespace PyD
open PySem PySem.Spec PyProof.Rows L2
theorem kyD_ok {d : D} (c : kyD d = true) : keyOk d = true ∧ depD d ≤ 8 ∧ ∃ ds, d = .tup ds := by
  simp only [kyD, Bool.and_eq_true, decide_eq_true_eq] at c
  refine ⟨c.1.1, c.1.2, ?_⟩
  cases d <;> simp [tupOf] at c
  exact ⟨_, rfl⟩
section
variable {K : Kw} {ρ ρ' : Rho} {H H' : Hp} {h : AH}
theorem RepH.setA (r : RepH K ρ H h) {k : Nat} {p : Addr} {ob : HO} {o' : AO} (hk : ρ.r[k]? = some p) (q : AOk K ρ (L2.upd H p ob) p o') : RepH K ρ (L2.upd H p ob) (h.set k o') := by
  have e : Ext ρ H ρ (L2.upd H p ob) := Ext.mut (List.mem_of_getElem? hk)
  refine ⟨by simp [r.len], r.nd, fun a m => ⟨(r.hid a m).1, e.there a (r.hid a m).2⟩, fun i a u e1 e2 => ?_⟩
  by_cases hi : i = k
  · subst hi
    rw [hk] at e1; cases e1
    have hl := (List.getElem?_eq_some_iff.mp hk).1
    rw [r.len] at hl
    rw [List.getElem?_set_self hl] at e2
    cases e2
    exact q
  · rw [List.getElem?_set_ne (Ne.symm hi)] at e2
    refine (r.obj i a u e1 e2).ext e (upd_ne fun z => hi ?_)
    subst z
    obtain ⟨h1, e1'⟩ := List.getElem?_eq_some_iff.mp e1
    obtain ⟨h2, e2'⟩ := List.getElem?_eq_some_iff.mp hk
    exact (List.getElem_inj r.nd).mp (e1'.trans e2'.symm)
mutual
/-- one more is named: no data see it -/
theorem DV.more {p : Addr} {φ : Heap → Prop} (hp : H p = some (HO.ext φ)) : ∀ (d : D) {v : V}, DV K ρ H d v → DV K (ρ.push p) H d v
  | .non, _, h => h
  | .bl _, _, h => h
  | .int _, _, h => h
  | .str _, _, h => h
  | .fn _, _, h => by simp only [DV] at h ⊢; exact h
  | .tup ds, _, h => by
    simp only [DV] at h ⊢
    obtain ⟨a, vs, e1, q, r⟩ := h
    refine ⟨a, vs, e1, q.elim (fun q => .inl ⟨q.1, fun m => ?_⟩) .inr, DVs.more hp ds r⟩
    rcases m with m | m
    · rcases List.mem_append.mp m with m | m
      · exact q.2 (.inl m)
      · cases List.mem_singleton.mp m
        rcases q.1 with z | ⟨o, z⟩ <;> (rw [hp] at z; cases z)
    · exact q.2 (.inr m)
  | .lst ds, _, h => by
    simp only [DV] at h ⊢
    obtain ⟨a, vs, e1, q, r⟩ := h
    refine ⟨a, vs, e1, ⟨q.1, fun m => ?_⟩, DVs.more hp ds r⟩
    rcases m with m | m
    · rcases List.mem_append.mp m with m | m
      · exact q.2 (.inl m)
      · cases List.mem_singleton.mp m
        have z := q.1
        rw [hp] at z; cases z
    · exact q.2 (.inr m)
  | .rol ds, _, h => by
    simp only [DV] at h ⊢
    obtain ⟨a, vs, e1, q, r⟩ := h
    refine ⟨a, vs, e1, q.elim (fun q => .inl ⟨q.1, fun m => ?_⟩) .inr, DVs.more hp ds r⟩
    rcases m with m | m
    · rcases List.mem_append.mp m with m | m
      · exact q.2 (.inl m)
      · cases List.mem_singleton.mp m
        rcases q.1 with z | ⟨o, z⟩ <;> (rw [hp] at z; cases z)
    · exact q.2 (.inr m)
  | .ref k, _, h => by
    simp only [DV] at h ⊢
    obtain ⟨a, e1, e2⟩ := h
    refine ⟨a, e1, ?_⟩
    show (ρ.r ++ [p])[k]? = some a
    rw [List.getElem?_append_left (List.getElem?_eq_some_iff.mp e2).1]; exact e2
theorem DVs.more {p : Addr} {φ : Heap → Prop} (hp : H p = some (HO.ext φ)) : ∀ (ds : List D) {vs : List V}, DVs K ρ H ds vs → DVs K (ρ.push p) H ds vs
  | [], _, h => h
  | d :: ds, _, h => by
    simp only [DVs] at h ⊢
    obtain ⟨v, r, e1, q, z⟩ := h
    exact ⟨v, r, e1, DV.more hp d q, DVs.more hp ds z⟩
end
theorem EOk.more {p : Addr} {φ : Heap → Prop} (hp : H p = some (HO.ext φ)) {x : D × D} {y : NestedKey × Addr × Value} (h : EOk K ρ H x y) : EOk K (ρ.push p) H x y :=
  let ⟨c, n, k, v, y, r⟩ := h; ⟨c, n, DV.more hp _ k, v, DV.more hp _ y, r⟩
theorem AOk.more {p a : Addr} {φ : Heap → Prop} (hp : H p = Option.some (HO.ext φ)) {o : AO} (q : AOk K ρ H a o) : AOk K (ρ.push p) H a o := by
  cases o with
  | lst ds => obtain ⟨vs, e1, r⟩ := q; exact ⟨vs, e1, DVs.more hp ds r⟩
  | dct kvs => obtain ⟨z, xs, r, e1⟩ := q; exact ⟨z, xs, Paired.mapP r fun _ _ y => y.more hp, e1⟩
  | ids ks => exact q
theorem RepH.shown (r : RepH K ρ H h) {p : Addr} {φ : Heap → Prop} {o' : AO} (np : p ∉ ρ) (hp : H p = some (HO.ext φ)) (q : AOk K (ρ.push p) H p o') : RepH K (ρ.push p) H (h ++ [o']) := by
  refine ⟨by simp [Rho.push, r.len], ?_, fun a m => ⟨fun z => ?_, (r.hid a m).2⟩, fun i a u e1 e2 => ?_⟩
  · show (ρ.r ++ [p]).Nodup
    rw [List.nodup_append]
    refine ⟨r.nd, by simp, fun a ha b hb => ?_⟩
    cases List.mem_singleton.mp hb
    intro z; subst z
    exact np (.inl ha)
  · rcases List.mem_append.mp z with z | z
    · exact (r.hid a m).1 z
    · cases List.mem_singleton.mp z
      exact np (.inr m)
  · have e1 : (ρ.r ++ [p])[i]? = some a := e1
    by_cases hi : i < ρ.r.length
    · rw [List.getElem?_append_left hi] at e1
      rw [List.getElem?_append_left (by rw [← r.len]; exact hi)] at e2
      exact (r.obj i a u e1 e2).more hp
    · have h1 : i = ρ.r.length := by
        have := (List.getElem?_eq_some_iff.mp e1).1
        simp at this; omega
      subst h1
      rw [List.getElem?_append_right (Nat.le_refl _)] at e1
      rw [List.getElem?_append_right (by rw [r.len]; exact Nat.le_refl _)] at e2
      simp [r.len] at e1 e2
      subst e1; subst e2
      exact q
theorem Ext.shown {p : Addr} (e : Ext ρ H ρ' H') (n : H p = none) : Ext ρ H (ρ'.push p) H' := by
  obtain ⟨t, u, rfl, ht, hu⟩ := e.more
  refine ⟨⟨t ++ [p], u, by simp [Rho.push], fun a m => ?_, hu⟩, e.keep, e.there⟩
  rcases List.mem_append.mp m with m | m
  · exact ht a m
  · cases List.mem_singleton.mp m; exact n
/-! ### the entries, by key -/
theorem ent_get {kvs : List (D × D)} {xs : List (NestedKey × Addr × Value)} (r : Paired (EOk K ρ H) kvs xs) {k : D} (c : keyOk k = true) : (dget kvs k).isSome = (atKey xs (nk k)).isSome := by
  induction r with
  | nil => rfl
  | @cons p q ps qs h t ih =>
    obtain ⟨h1, h2, _⟩ := h
    have e := nk_eq (kyD_ok h1).1 c
    unfold dget atKey at ih ⊢
    simp only [List.find?_cons, h2, e]
    cases eqD p.1 k with
    | true => rfl
    | false => exact ih
theorem ent_put {kvs : List (D × D)} {xs : List (NestedKey × Addr × Value)} (r : Paired (EOk K ρ H) kvs xs) {k d : D} {a : Addr} {u : Value} (hk : EOk K ρ H (k, d) (nk k, a, u)) : Paired (EOk K ρ H) (dput kvs k d) (storedH xs (nk k) a u) := by
  have c := (kyD_ok hk.1).1
  unfold dput storedH
  rw [ent_get r c]
  by_cases q : (atKey xs (nk k)).isSome = true
  · rw [if_pos q, if_pos q]
    clear q
    induction r with
    | nil => exact .nil
    | @cons x y ps qs h t ih =>
      rw [List.map_cons, List.map_cons]
      refine .cons ?_ ih
      obtain ⟨h1, h2, h3, h4⟩ := h
      have e := nk_eq (kyD_ok h1).1 c
      unfold putAt
      cases b : eqD x.1 k with
      | true =>
        rw [b] at e
        rw [if_pos rfl, if_pos (h2.trans (of_decide_eq_true e))]
        exact ⟨h1, h2, h3, hk.2.2.2⟩
      | false =>
        rw [b] at e
        rw [if_neg Bool.false_ne_true, if_neg (fun z => of_decide_eq_false e (h2.symm.trans z))]
        exact ⟨h1, h2, h3, h4⟩
  · rw [if_neg q, if_neg q]
    exact Paired.snoc r hk
end
section
variable {X : Cx} {pins : List (Addr × Obj)} {σ : L2.St} {H : Hp} {s : Shared} {ρ : Rho} {h : AH}
theorem dct_keys (I : Inv X pins σ H s) {kvs : List (D × D)} {xs : List (NestedKey × Addr × Value)} (r : Paired (EOk X.kw ρ H) kvs xs) : ∀ x ∈ xs, (nestedKind X.prog X.w).is s.heap x.1 x.2.1 := by
  induction r with
  | nil => intro x hx; cases hx
  | @cons p q ps qs h t ih =>
    intro x hx
    rcases List.mem_cons.mp hx with e | hx
    · subst e
      obtain ⟨h1, h2, h3, h4⟩ := h
      obtain ⟨c1, c2, _⟩ := kyD_ok h1
      refine ⟨?_, ?_⟩
      · rw [h2]; exact nk_is I p.1 c1 h3 rfl
      · rw [h2, nk_dep p.1 c1]; exact c2
    · exact ih x hx
theorem dct_of (I : Inv X pins σ H s) {a : Addr} {kvs : List (D × D)} (q : AOk X.kw ρ H a (.dct kvs)) :
    (a == sysModules) = false ∧ ∃ xs, Paired (EOk X.kw ρ H) kvs xs ∧ H a = some (.ext (dctPhi X.w a xs)) ∧ s.heap.DictOfH (nestedKind X.prog X.w) a xs := by
  obtain ⟨z, xs, r, e⟩ := q
  refine ⟨z, xs, r, e, ?_⟩
  obtain ⟨⟨o, es, ep, h1, h2, h3, h4, h5⟩, _, _⟩ := (show ObjOk X.prog X.w H s.heap a (.ext (dctPhi X.w a xs)) from I.hok a _ e)
  exact ⟨o, es, ep, h1, h2, h3, h4, dct_keys I r, h5⟩
theorem key_at (I : Inv X pins σ H s) {k : D} {y : V} {u : Value} (c : kyD k = true) (q : DV X.kw ρ H k y) (ru : RelV y u) : ∃ b, u = .ref b ∧ y = .ref b ∧ (nestedKind X.prog X.w).is s.heap (nk k) b := by
  obtain ⟨c1, c2, ds, rfl⟩ := kyD_ok c
  obtain ⟨b, vs, rfl, z, qs⟩ := q.t
  cases (show u = Value.ref b from ru)
  exact ⟨b, rfl, rfl, nk_is I _ c1 q rfl, by rw [nk_dep _ c1]; exact c2⟩
theorem ext_new {P : Program} {w : World} {H' : Hp} {h' : Heap} {a : Addr} {xs : List (NestedKey × Addr × Value)} (dd : h'.DictOfH (nestedKind P w) a xs) : ObjOk P w H' h' a (.ext (dctPhi w a xs)) := by
  obtain ⟨o, es, ep, h1, h2, h3, h4, _, h5⟩ := dd
  exact ⟨⟨o, es, ep, h1, h2, h3, h4, h5⟩, ⟨o, h1⟩, fun g1 g2 ⟨o', es', ep', e1, e2⟩ k => ⟨o', es', ep', k o' e1, e2⟩⟩
/-! ### k in d -/
def inB (ng : Bool) : D → D → AH → Option D := fun x y h => (dctOf y h).bind fun kvs => if kyD x then some (.bl ((dget kvs x).isSome != ng)) else none
theorem dctOf_at (r : RepH X.kw ρ H h) {b : D} {kvs : List (D × D)} {y : V} (q : DV X.kw ρ H b y) (e : dctOf b h = some kvs) : ∃ n a, b = .ref n ∧ h[n]? = some (.dct kvs) ∧ y = .ref a ∧ ρ.r[n]? = some a ∧ AOk X.kw ρ H a (.dct kvs) := by
  cases b with
  | ref n =>
    simp only [dctOf] at e
    cases en : h[n]? with
    | none => rw [en] at e; cases e
    | some ob =>
      cases ob with
      | lst ds => rw [en] at e; cases e
      | ids ks => rw [en] at e; cases e
      | dct kv =>
        rw [en] at e
        cases e
        obtain ⟨a, rfl, ha⟩ := q.r
        obtain ⟨o2, e2, ok⟩ := r.at' ha
        rw [en] at e2; cases e2
        exact ⟨n, a, rfl, en, rfl, ha, ok⟩
  | _ => cases e
theorem op_inDct (hu : X.A.units + 64 < cLine) : OpR X (compareOp .In) (rB X.kw (inB false)) := by
  intro pins s σ H x y v u Q I rx ry ⟨ρ, h, a, b, d, rh, qa, qb, e, o⟩
  simp only [inB] at e
  cases ei : dctOf b h with
  | none => simp [ei] at e
  | some kvs =>
    simp only [ei, Option.bind_some] at e
    split at e
    case isFalse => cases e
    rename_i hk
    cases e
    obtain ⟨n, p, rfl, en, rfl, hp, ok⟩ := dctOf_at rh qb ei
    cases (show u = Value.ref p from ry)
    obtain ⟨z, xs, r, eH, dd⟩ := dct_of I ok
    obtain ⟨b, rfl, rfl, hb⟩ := key_at I hk qa rx
    refine wpAny_in_heap (show X.A.in1.units + 8 < cLine from by show X.A.units + 1 + 8 < cLine; omega) hb z dd ?_
    rw [← ent_get r (kyD_ok hk).1]
    refine ⟨.bl (dget kvs a).isSome, H, I.tok _, rfl, ?_⟩
    have := o.here rh (DV.bl' _)
    simpa using this
theorem op_notinDct (hu : X.A.units + 64 < cLine) : OpR X (compareOp .NotIn) (rB X.kw (inB true)) := by
  intro pins s σ H x y v u Q I rx ry ⟨ρ, h, a, b, d, rh, qa, qb, e, o⟩
  simp only [inB] at e
  cases ei : dctOf b h with
  | none => simp [ei] at e
  | some kvs =>
    simp only [ei, Option.bind_some] at e
    split at e
    case isFalse => cases e
    rename_i hk
    cases e
    obtain ⟨n, p, rfl, en, rfl, hp, ok⟩ := dctOf_at rh qb ei
    cases (show u = Value.ref p from ry)
    obtain ⟨z, xs, r, eH, dd⟩ := dct_of I ok
    obtain ⟨b, rfl, rfl, hb⟩ := key_at I hk qa rx
    refine wpAny_notIn_heap (show X.A.in1.units + 8 < cLine from by show X.A.units + 1 + 8 < cLine; omega) hb z dd ?_
    rw [← ent_get r (kyD_ok hk).1]
    refine ⟨.bl (!(dget kvs a).isSome), H, I.tok _, rfl, ?_⟩
    have := o.here rh (DV.bl' _)
    simpa using this
end
section
variable {X : Cx} {e a b : Expr} {es : List Expr} {pos p : Pos} {m ma mb mc : Sl → AH → Option (D × AH)}
abbrev mIn (ng : Bool) (ma mb : Sl → AH → Option (D × AH)) : Sl → AH → Option (D × AH) := fun σ h => (ma σ h).bind fun (x, h1) => (mb σ h1).bind fun (y, h2) => (dctOf y h2).bind fun kvs => if kyD x then some (.bl ((dget kvs x).isSome != ng), h2) else none
def inP (ng : Bool) : CmpOp := if ng then .NotIn else .In
theorem op_inP (hu : X.A.units + 64 < cLine) (ng : Bool) : OpR X (compareOp (inP ng)) (rB X.kw (inB ng)) := by
  cases ng
  · exact op_inDct hu
  · exact op_notinDct hu
theorem mIn_eq (ng : Bool) (σ : Sl) (h : AH) : mIn ng ma mb σ h = (ma σ h).bind fun (x, h1) => (mb σ h1).bind fun (y, h2) => (inB ng x y h2).bind fun z => some (z, h2) := by
  unfold mIn inB
  cases ma σ h with
  | none => rfl
  | some p =>
    obtain ⟨x, h1⟩ := p
    simp only [Option.bind_some]
    cases mb σ h1 with
    | none => rfl
    | some p =>
      obtain ⟨y, h2⟩ := p
      simp only [Option.bind_some]
      cases dctOf y h2 with
      | none => rfl
      | some kvs =>
        simp only [Option.bind_some]
        split <;> rfl
theorem re_inD {ng : Bool} (hu : X.A.units + 64 < cLine) (ha : RE X a ma) (hb : RE X b mb) (hm : behindInMarks (inP ng) b = false) : RE X (.Compare a [inP ng] [b] pos) (mIn ng ma mb) :=
  (pe_cmpR (op_inP hu ng) ha hb hm).imp fun σ H Q ⟨ρ, σd, h, d, h', rs, rh, e, o⟩ => tOp_imp (g := inB ng) σ H Q ⟨ρ, σd, h, d, h', rs, rh, (mIn_eq ng σd h).symm.trans e, o⟩
theorem rt_inD {ng : Bool} (hu : X.A.units + 64 < cLine) (ha : RE X a ma) (hb : RE X b mb) (hm : behindInMarks (inP ng) b = false) : RT X (.Compare a [inP ng] [b] pos) (tstM (mIn ng ma mb)) :=
  (pt_cmpR (op_inP hu ng) ha hb hm).imp fun σ H Q ⟨ρ, σd, h, d, h', rs, rh, e, o⟩ => by
    simp only [tstM, mIn_eq] at e
    cases ea : ma σd h with
    | none => simp [ea] at e
    | some p =>
      obtain ⟨x, h1⟩ := p
      cases eb : mb σd h1 with
      | none => simp [ea, eb] at e
      | some p =>
        obtain ⟨y, h2⟩ := p
        cases eg : inB ng x y h2 with
        | none => simp [ea, eb, eg] at e
        | some z =>
          obtain ⟨k, rfl⟩ : ∃ k, z = .bl k := by
            unfold inB at eg
            cases eq : dctOf y h2 with
            | none => simp [eq] at eg
            | some kvs =>
              simp only [eq, Option.bind_some] at eg
              split at eg
              · cases eg; exact ⟨_, rfl⟩
              · cases eg
          simp [ea, eb, eg, truth] at e
          obtain ⟨rfl, rfl⟩ := e
          exact ⟨ρ, σd, h, x, h1, rs, rh, ea, fun v H1 ρ1 e1 r1 q1 => ⟨ρ1, σd, h1, y, h2, rs.ext e1, r1, eb, fun w H2 ρ2 e2 r2 q2 => ⟨ρ2, h2, x, y, .bl k, r2, DV.ext e2 x q1, q2, eg, fun z H3 ρ3 e3 r3 q3 => ⟨k, q3.b, o H3 ρ3 (e1.trans (e2.trans e3)) r3⟩⟩⟩⟩
/-! ### d[k] = v -/
def rSetD (K : Kw) : TSet := fun o i v H Q => ∃ ρ h n kvs k d a, RepH K ρ H h ∧ ρ.r[n]? = some a ∧ o = .ref a ∧ h[n]? = some (.dct kvs) ∧ DV K ρ H k i ∧ kyD k = true ∧ kvs.length < lim ∧ DV K ρ H d v ∧
  ∀ H', Ext ρ H ρ H' → RepH K ρ H' (h.set n (.dct (dput kvs k d))) → Q H'
theorem set_dct (hu : X.A.units + 64 < cLine) : PSet X (rSetD X.kw) := by
  intro pins s σ H o i v ov iv u Q I ro ri rv ⟨ρ, h, n, kvs, k, d, a, rh, hn, eo, en, qk, ck, hl, qd, q⟩
  subst eo
  cases (show ov = Value.ref a from ro)
  obtain ⟨o2, e2, ok⟩ := rh.at' hn
  rw [en] at e2; cases e2
  obtain ⟨z, xs, r, eH, dd⟩ := dct_of I ok
  obtain ⟨b, rfl, rfl, hb⟩ := key_at I ck qk ri
  have hx : xs.length < sizeLine := by rw [← Paired.length r, lim_eq]; exact hl
  refine wpAny_setItem_heap (hsz := Nat.le_of_lt hx) (show X.A.in1.units + 8 < cLine from by show X.A.units + 1 + 8 < cLine; omega) hb dd fun h' dd' hs => ?_
  have he : ∃ q, h'.get? a = some q := let ⟨q, _, _, hq, _⟩ := dd'; ⟨q, hq⟩
  have mem : a ∈ ρ := Rho.mem_get hn
  refine ⟨_, d_write I (by rw [eH]; exact True.intro) hs he (ext_new dd'), q _ (Ext.mut (List.mem_of_getElem? hn)) (rh.setA hn ⟨z, _, ?_, upd_same⟩)⟩
  exact Paired.mapP (ent_put r ⟨ck, rfl, qk, v, qd, rv⟩) fun _ _ ⟨c, n, k, v, y, r⟩ => ⟨c, n, DV.upd mem _ k, v, DV.upd mem _ y, r⟩
def mSetD (m mo mi : Sl → AH → Option (D × AH)) : Sl → AH → Option (Fl × Sl × AH) := fun σ h => (m σ h).bind fun (d, h1) => (mo σ h1).bind fun (x, h2) => (mi σ h2).bind fun (y, h3) => match x with
      | .ref n => (match h3[n]? with
        | some (.dct kvs) => if kyD y && decide (kvs.length < lim) then some (.nx, σ, h3.set n (.dct (dput kvs y d))) else none
        | _ => none)
      | _ => none
theorem rs_setD {ξ : XR} {o i : Expr} {mo mi : Sl → AH → Option (D × AH)} {tpos : Pos} (hu : X.A.units + 64 < cLine) (hv : RE X e m) (ho : RE X o mo) (hi : RE X i mi) (hp : plainE i = true) (hn : notComp e = true) :
    RS ξ X (.Assign [.Subscript o i tpos] e pos) (mSetD m mo mi) := by
  have hasg : ∀ v, assign (.Subscript o i tpos) X.env v = (do
      let ov ← holding [v] (eval o X.env)
      let iv ← holding [v, ov] (eval i X.env)
      standAt tpos
      holding [v, ov, iv] (setItem ov iv v)
      release [v, ov, iv] []) := by
    intro v
    cases i <;> first | rfl | simp [plainE] at hp
  have hsw : swappedStores [.Subscript o i tpos] e X.env = pure none := by cases e <;> rfl
  refine (ps_asg (pos := pos) hv (pg_sub ho hi (set_dct hu) hasg) (show swapsWith e (some (.Subscript o i tpos)) pos.line X.env = pure false from swaps_no hn _ _ _) hsw rfl).imp fun D σ H ⟨ρ, σd, h, f, σd', h', rs, rh, e, o⟩ => ?_
  unfold mSetD at e
  cases ea : m σd h with
  | none => simp [ea] at e
  | some p =>
    obtain ⟨d, h1⟩ := p
    cases eb : mo σd h1 with
    | none => simp [ea, eb] at e
    | some p =>
      obtain ⟨x, h2⟩ := p
      cases ec : mi σd h2 with
      | none => simp [ea, eb, ec] at e
      | some p =>
        obtain ⟨y, h3⟩ := p
        cases x with
        | ref n =>
            cases en : h3[n]? with
            | none => simp [ea, eb, ec, en] at e
            | some ob =>
              cases ob with
              | lst ds => simp [ea, eb, ec, en] at e
              | ids ks => simp [ea, eb, ec, en] at e
              | dct kvs =>
                simp only [ea, eb, ec, en, Option.bind_some] at e
                split at e
                case isFalse => cases e
                rename_i hz
                rw [Bool.and_eq_true, decide_eq_true_eq] at hz
                simp only [Option.some.injEq, Prod.mk.injEq] at e
                obtain ⟨rfl, rfl, rfl⟩ := e
                refine ⟨ρ, σd, h, d, h1, rs, rh, ea, fun v H1 ρ1 e1 r1 q1 => ⟨ρ1, σd, h1, _, h2, rs.ext e1, r1, eb, fun w H2 ρ2 e2 r2 q2 => ⟨ρ2, σd, h2, _, h3, rs.ext (e1.trans e2), r2, ec, fun u H3 ρ3 e3 r3 q3 => ?_⟩⟩⟩
                obtain ⟨l, rfl, hl⟩ := (DV.ext e3 _ q2).r
                refine ⟨ρ3, h3, n, kvs, y, d, l, r3, hl, rfl, en, q3, hz.1, hz.2, DV.ext (e2.trans e3) _ q1, fun H4 e4 r4 => ?_⟩
                have et := e1.trans (e2.trans (e3.trans e4))
                exact o _ _ ρ3 et (rs.ext et) r4
        | _ => simp [ea, eb, ec] at e
/-! ### {k: v} -/
theorem dict1_walk {prog : Program} {w : World} {A : Around} {E : Value → Shared → Prop} {s : Shared} {env : Env} {k v : Expr} {Q : Value → Shared → Prop}
    (h : wpAny (model prog w) A (eval k env) (fun kv s1 => wpAny (model prog w) A (eval v env) (fun vv s2 => wpAny (model prog w) A (dictSet s.heap.objs.size kv vv) (fun _ s3 => Q (.ref s.heap.objs.size) s3) E s2) E s1) E
      { s with heap := s.heap.push { cls := .type "dict", data := .dict #[] } }) : wpAny (model prog w) A (eval (.Dict [some k] [v] pos) env) Q E s := by
  rw [arm_eval_Dict, zip_pairTrees [some k] [v] env pos rfl rfl, dictDisplay_pairs (pairTrees [some k] [v] env pos) (by simp [pairTrees]) (by simp [pairTrees])]
  refine wpAny_bind (wpAny_standAt (wpAny_bind ?_))
  unfold subDict
  refine wpAny_bind (wpAny_alloc ?_)
  refine wpAny_bind (wpAny_holding ?_)
  rw [if_pos (by simp [pairTrees])]
  refine wpAny_bind (pairTrees_cons_walk (wpAny_mono h (fun kv s1 h1 => wpAny_mono h1 (fun vv s2 h2 => pairTrees_nil_walk ?_) fun _ _ x => x) fun _ _ x => x))
  refine wpAny_holding ?_
  show wpAny _ _ (forIn [(kv, vv)] _ _ >>= _) _ _ _
  rw [List.forIn_cons]
  refine wpAny_bind (wpAny_bind (wpAny_bind (wpAny_mono h2 (fun _ s3 h3 => ?_) fun _ _ x => x)))
  exact wpAny_pure (by
    show wpAny _ _ (forIn ([] : List (Value × Value)) PUnit.unit _) _ _ _
    rw [List.forIn_nil]
    exact wpAny_pure (wpAny_pure (wpAny_pure (wpAny_pure h3))))
theorem re_dct1 (hu : X.A.units + 64 < cLine) (ha : RE X a ma) (hb : RE X b mb) : RE X (.Dict [some a] [b] pos) (fun σ h => (ma σ h).bind fun (x, h1) => (mb σ h1).bind fun (y, h2) => if kyD x then some (.ref h2.length, h2 ++ [.dct [(x, y)]]) else none) := by
  refine ⟨fun pins s σ H Q I ⟨ρ, σd, h, d, h', rs, rh, e, o⟩ => ?_⟩
  cases ea : ma σd h with
  | none => simp [ea] at e
  | some pr =>
    obtain ⟨x, h1⟩ := pr
    cases eb : mb σd h1 with
    | none => simp [ea, eb] at e
    | some pr =>
      obtain ⟨y, h2⟩ := pr
      simp only [ea, eb, Option.bind_some] at e
      split at e
      case isFalse => cases e
      rename_i hk
      simp only [Option.some.injEq, Prod.mk.injEq] at e
      obtain ⟨rfl, rfl⟩ := e
      have hn := I.hok.fresh (Nat.le_refl s.heap.objs.size)
      have hz : (s.heap.objs.size == sysModules) = false := beq_eq_false_iff_ne.mpr (Ne.symm (Nat.ne_of_lt I.big))
      have I1 := I.laid (a := s.heap.objs.size) (o := .ext (dctPhi X.w s.heap.objs.size [])) (h' := s.heap.push { cls := .type "dict", data := .dict #[] }) (t' := s.toks) (fun _ _ q => Heap.get?_push_of_some _ q) (Nat.le_refl _) (ext_new (P := X.prog) (Heap.DictOfH.new s.heap))
      generalize hp : s.heap.objs.size = p at *
      have e0 : Ext ρ H (ρ.hide p) (upd H p (.ext (dctPhi X.w p []))) := Ext.hide hn
      have np : p ∉ ρ := rh.notMem hn
      refine dict1_walk ?_
      rw [hp]
      refine thn (ha.run pins _ σ _ (fun v H1 => ∃ ρ1, Ext (ρ.hide p) (upd H p (.ext (dctPhi X.w p []))) ρ1 H1 ∧ RepH X.kw ρ1 H1 h1 ∧ DV X.kw ρ1 H1 x v) I1 ⟨ρ.hide p, σd, h, x, h1, rs.ext e0, rh.hide hn, ea, fun v H1 ρ1 e1 r1 q1 => ⟨ρ1, e1, r1, q1⟩⟩) fun kv s1 ⟨v, H1, I2, rv, ρ1, e1, r1, q1⟩ => ?_
      refine thn (hb.run pins _ σ _ (fun w H2 => ∃ ρ2, Ext ρ1 H1 ρ2 H2 ∧ RepH X.kw ρ2 H2 h2 ∧ DV X.kw ρ2 H2 y w) I2 ⟨ρ1, σd, h1, y, h2, rs.ext (e0.trans e1), r1, eb, fun w H2 ρ2 e2 r2 q2 => ⟨ρ2, e2, r2, q2⟩⟩) fun vv s2 ⟨w, H2, I3, rw, ρ2, e2, r2, q2⟩ => ?_
      · skip
        have e02 := e0.trans (e1.trans e2)
        have mw : p ∈ ρ2.w := (e1.trans e2).hidden (List.mem_cons_self ..)
        have nr : p ∉ ρ2.r := (r2.hid p mw).1
        have eH : H2 p = some (.ext (dctPhi X.w p [])) := (e1.trans e2).keep p _ upd_same (fun m => np (.inl m))
        have q1' := DV.ext e2 _ q1
        obtain ⟨⟨ob, es, ep, g1, g2, g3, g4, g5⟩, _, _⟩ := (show ObjOk X.prog X.w H2 s2.heap p (.ext (dctPhi X.w p [])) from I3.hok p _ eH)
        have dd : s2.heap.DictOfH (nestedKind X.prog X.w) p [] := ⟨ob, es, ep, g1, g2, g3, g4, (fun x hx => by cases hx), g5⟩
        obtain ⟨b', rfl, rfl, hb'⟩ := key_at I3 hk q1' rv
        refine wpAny_dictSet_heap (hsz := Nat.zero_le _) (show X.A.units + 8 < cLine from by omega) hb' dd fun h' dd' hs => ?_
        have he : ∃ q, h'.get? p = some q := let ⟨q, _, _, hq, _⟩ := dd'; ⟨q, hq⟩
        have I4 := d_write (t' := s2.toks + (nestedKind X.prog X.w).draws (nk x)) I3 (by rw [eH]; exact True.intro) hs he (ext_new (H' := upd H2 p (.ext (dctPhi X.w p (storedH [] (nk x) b' vv)))) dd')
        obtain ⟨ρf, f1, f2, f3, f4⟩ := Ext.show (e02.updw hn) hn nr (fun m => np (.inr m))
        have rf : RepH X.kw ρf (upd H2 p (.ext (dctPhi X.w p (storedH [] (nk x) b' vv)))) h2 := (r2.updw mw).less f3 f4
        have tr : ∀ {d v}, DV X.kw ρ2 H2 d v → DV X.kw (ρf.push p) (upd H2 p (.ext (dctPhi X.w p (storedH [] (nk x) b' vv)))) d v := fun q => DV.more upd_same _ (DV.less f3 f4 _ (DV.upd (.inr mw) _ q))
        refine ⟨.ref p, _, I4, rfl, o _ _ (ρf.push p) (f1.shown hn) (rf.shown f2 upd_same ⟨hz, _, ?_, upd_same⟩) ?_⟩
        · exact .cons ⟨hk, rfl, tr q1', w, tr q2, rw⟩ .nil
        · simp only [DV]
          exact ⟨p, rfl, by show (ρf.r ++ [p])[h2.length]? = some p; rw [← rf.len]; simp⟩
end
end PyD

/-! PyE7: dicts of ints, sorted(..), in a tuple of values of any depth. -/
namespace PyD
open PySem PySem.Spec PyProof.Rows L2
/-! ### sorting -/
theorem insI_perm (x : Int) : ∀ l : List Int, (insI x l).Perm (x :: l)
  | [] => .refl _
  | y :: ys => by
    unfold insI
    split
    · exact .refl _
    · exact ((insI_perm x ys).cons y).trans (.swap x y ys)
theorem isort_perm : ∀ l : List Int, (isort l).Perm l
  | [] => .refl _
  | x :: xs => (insI_perm x (isort xs)).trans ((isort_perm xs).cons x)
theorem insI_pw (x : Int) : ∀ l : List Int, l.Pairwise (· ≤ ·) → (insI x l).Pairwise (· ≤ ·)
  | [], _ => by simp [insI]
  | y :: ys, h => by
    obtain ⟨h1, h2⟩ := List.pairwise_cons.mp h
    unfold insI
    split
    case isTrue hx =>
      refine List.pairwise_cons.mpr ⟨fun z hz => ?_, h⟩
      rcases List.mem_cons.mp hz with rfl | hz
      · exact hx
      · exact Int.le_trans hx (h1 z hz)
    case isFalse hx =>
      refine List.pairwise_cons.mpr ⟨fun z hz => ?_, insI_pw x ys h2⟩
      rcases List.mem_cons.mp ((insI_perm x ys).mem_iff.mp hz) with rfl | hz
      · omega
      · exact h1 z hz
theorem isort_pw : ∀ l : List Int, (isort l).Pairwise (· ≤ ·)
  | [] => .nil
  | x :: xs => insI_pw x _ (isort_pw xs)
theorem isort_only {l r : List Int} (p : r.Perm l) (q : r.Pairwise (· ≤ ·)) : r = isort l :=
  List.Perm.eq_of_pairwise (le := (· ≤ ·)) (fun a b _ _ h1 h2 => Int.le_antisymm h1 h2) q (isort_pw l) (p.trans (isort_perm l).symm)
theorem intsOf_map : ∀ {ds : List D} {ns : List Int}, intsOf ds = some ns → ds = ns.map .int
  | [], _, e => by simp only [intsOf, Option.some.injEq] at e; subst e; rfl
  | d :: ds, ns, e => by
    cases d with
    | int i =>
      simp only [intsOf, Option.map_eq_some_iff] at e
      obtain ⟨r, er, rfl⟩ := e
      rw [intsOf_map er]; rfl
    | _ => simp [intsOf] at e
def idV (k : Int) : Key × V := (Sum.inl k, V.bl true)
def rSrt (K : PySem.W.Frag) : List V → Hp → VK → Prop := fun vs H Q => ∃ (a : Addr) (ns : List Int), vs = [V.ref a] ∧ (SqL K H a (ns.map V.int) ∨ (H a = some (.dK (ns.map fun k => (Sum.inl k, V.bl true))) ∧ ns.length < 64)) ∧
  ∀ (p : Addr), H p = none → Q (.ref p) (upd H p (.lst ((isort ns).map V.int)))
section
variable {X : Cx} {e a b : Expr} {es : List Expr} {pos p : Pos} {m ma mb mc : Sl → AH → Option (D × AH)} {K : Kw} {ρ ρ' : Rho} {H H' : Hp} {h : AH}
theorem call_srt (hc : X.calm = true) : CallR X (.builtin "sorted") (rSrt X.K) := by
  intro pins s σ H vs us Q I r ⟨a, ns, ev, hs, q⟩
  rcases hs with hs | ⟨hs, hl⟩
  · exact cr_sortedI pins s σ H vs us Q I r ⟨a, ns, ev, hs, fun ns' p h1 h2 h3 => by rw [isort_only h1 h2]; exact q p h3⟩
  · exact call_sortedDI hc pins s σ H vs us Q I r ⟨a, _, ns, ev, .inl hs, by rw [List.map_map]; rfl, hl, fun ns' p h1 h2 h3 => by rw [isort_only h1 h2]; exact q p h3⟩
theorem rf_srt (hc : X.calm = true) (hg : Gl X "sorted") (hm : X.mg "sorted" = none) (ha : RE X a ma) (hp : plainE a = true) : RF X (.Call (.Name "sorted" p) [a] [] pos) (fun σ h => (ma σ h).bind fun (x, h1) => (sortOf x h1).bind fun ks => some ((isort ks).map .int, h1)) :=
  (pe_callB (call_srt hc) hg hm (by decide +kernel) (pa_cons ha pa_nil (star_cons hp _ _)) (by decide) (by decide) (star_cons hp _ _) rfl).imp fun σ H Q ⟨ρ, σd, h, d, h', rs, rh, e, o⟩ => by
    cases ea : ma σd h with
    | none => simp [ea] at e
    | some p =>
      obtain ⟨x, h1⟩ := p
      cases ei : sortOf x h1 with
      | none => simp [ea, ei] at e
      | some ns =>
        simp [ea, ei] at e
        obtain ⟨rfl, rfl⟩ := e
        refine ⟨ρ, σd, h, x, h1, rs, rh, ea, fun v H1 ρ1 e1 r1 q1 => ?_⟩
        have fin : ∀ l, H1 l = none → Q (.ref l) (upd H1 l (.lst ((isort ns).map V.int))) := fun l n => o l _ H1 ρ1 e1 r1 n (DVs.of_ints _)
        cases x with
        | lst ds =>
          simp only [sortOf] at ei
          obtain ⟨a, vs, rfl, z, y⟩ := q1.l
          rw [intsOf_map ei] at y
          rw [y.ints] at z
          exact ⟨a, ns, rfl, .inl (QL.sq (K := X.kw) z), fin⟩
        | ref n =>
          simp only [sortOf] at ei
          obtain ⟨a, rfl, z⟩ := q1.r
          obtain ⟨ob, e2, ok⟩ := r1.at' z
          rw [e2] at ei
          cases ob with
          | dct kvs => simp at ei
          | lst ds =>
            simp only at ei
            obtain ⟨vs, e3, y⟩ := ok
            rw [intsOf_map ei] at y
            rw [y.ints] at e3
            exact ⟨a, ns, rfl, .inl (.of e3), fin⟩
          | ids ks =>
            simp only at ei
            split at ei
            case isFalse => cases ei
            rename_i hz
            cases ei
            exact ⟨a, ns, rfl, .inr ⟨ok, hz⟩, fin⟩
        | _ => simp [sortOf] at ei
/-! ### {} -/
theorem RepH.pushI (r : RepH K ρ H h) {p : Addr} (n : H p = none) : RepH K (ρ.push p) (upd H p (.dK [])) (h ++ [.ids []]) := by
  have np : p ∉ ρ.r := fun z => r.notMem n (.inl z)
  refine ⟨by simp [Rho.push, r.len], ?_, fun a m => ⟨fun z => ?_, (Ext.fresh (ρ := ρ) n).there a (r.hid a m).2⟩, fun i a u e1 e2 => ?_⟩
  · show (ρ.r ++ [p]).Nodup
    rw [List.nodup_append]
    refine ⟨r.nd, by simp, fun a ha b hb => ?_⟩
    cases List.mem_singleton.mp hb
    intro z; subst z
    exact np ha
  · rcases List.mem_append.mp z with z | z
    · exact (r.hid a m).1 z
    · cases List.mem_singleton.mp z
      exact r.notMem n (.inr m)
  · have e : Ext ρ H (ρ.push p) (upd H p (.dK [])) := Ext.push n
    have e1 : (ρ.r ++ [p])[i]? = some a := e1
    by_cases hi : i < ρ.r.length
    · rw [List.getElem?_append_left hi] at e1
      rw [List.getElem?_append_left (by rw [← r.len]; exact hi)] at e2
      exact (r.obj i a u e1 e2).ext e (upd_ne (fun z : a = p => r.notMem n (by rw [← z]; exact Rho.mem_get e1)))
    · have h1 : i = ρ.r.length := by
        have := (List.getElem?_eq_some_iff.mp e1).1
        simp at this; omega
      subst h1
      rw [List.getElem?_append_right (Nat.le_refl _)] at e1
      rw [List.getElem?_append_right (by rw [r.len]; exact Nat.le_refl _)] at e2
      simp [r.len] at e1 e2
      subst e1; subst e2
      exact upd_same
theorem re_dct0 : RE X (.Dict [] [] pos) (fun _ h => some (.ref h.length, h ++ [.ids []])) :=
  pe_dnewK.imp fun σ H Q ⟨ρ, σd, h, d, h', rs, rh, e, o⟩ => by
    simp only [Option.some.injEq, Prod.mk.injEq] at e
    obtain ⟨rfl, rfl⟩ := e
    intro p n
    refine o _ _ (ρ.push p) (Ext.push n) (rh.pushI n) ?_
    simp only [DV]
    exact ⟨p, rfl, by show (ρ.r ++ [p])[h.length]? = some p; rw [← rh.len]; simp⟩
/-! ### d[k] = True -/
theorem putK_ids (ks : List Int) (k : Int) : putK (ks.map fun k => ((Sum.inl k : Key), V.bl true)) (Sum.inl k) (V.bl true) = (putI ks k).map fun k => (Sum.inl k, V.bl true) := by
  unfold putK putI
  have ha : ((ks.map fun k => ((Sum.inl k : Key), V.bl true)).any fun kv => decide (kv.1 = Sum.inl k)) = decide (k ∈ ks) := by
    rw [Bool.eq_iff_iff]
    simp [List.any_map, List.any_eq_true]
  rw [ha]
  by_cases hk : k ∈ ks
  · rw [if_pos (by simpa using hk), if_pos hk, List.map_map]
    refine List.map_congr_left fun x _ => ?_
    simp only [Function.comp]
    split <;> rfl
  · rw [if_neg (by simpa using hk), if_neg hk, List.map_append]; rfl
def rSetI (K : Kw) : TSet := fun o i v H Q => ∃ ρ h n ks k a, RepH K ρ H h ∧ ρ.r[n]? = some a ∧ o = .ref a ∧ h[n]? = some (.ids ks) ∧ i = .int k ∧ v = .bl true ∧ ks.length < lim ∧
  ∀ H', Ext ρ H ρ H' → RepH K ρ H' (h.set n (.ids (putI ks k))) → Q H'
theorem set_ids (hu : X.A.units + 64 < cLine) : PSet X (rSetI X.kw) := by
  intro pins s σ H o i v ov iv u Q I ro ri rv ⟨ρ, h, n, ks, k, a, rh, hn, eo, en, ei, ev, hl, q⟩
  subst eo ei ev
  cases (show ov = Value.ref a from ro)
  obtain ⟨o2, e2, ok⟩ := rh.at' hn
  rw [en] at e2; cases e2
  have hx : (ks.map fun k => ((Sum.inl k : Key), V.bl true)).length < sizeLine := by rw [List.length_map, lim_eq]; exact hl
  refine d_setItem (show X.A.units + 1 < cLine from by omega) I (DPut.k (k := Sum.inl k) (v := V.bl true) ok hx) ri rv fun s4 I4 => ?_
  refine ⟨_, I4, q _ (Ext.mut (List.mem_of_getElem? hn)) (rh.setA hn ?_)⟩
  show upd H a _ a = _
  rw [upd_same, putK_ids]
theorem putID_of {x y d : D} {h h' : AH} (e : putID x y d h = some h') : ∃ n k ks, x = .ref n ∧ y = .int k ∧ d = .bl true ∧ h[n]? = some (.ids ks) ∧ ks.length < lim ∧ h' = h.set n (.ids (putI ks k)) := by
  cases x with
  | ref n =>
    cases y with
    | int k =>
      cases d with
      | bl b =>
        cases b with
        | true =>
          simp only [putID] at e
          cases en : h[n]? with
          | none => simp [en] at e
          | some ob =>
            cases ob with
            | ids ks =>
              simp only [en] at e
              split at e
              case isFalse => cases e
              rename_i hz
              cases e
              exact ⟨n, k, ks, rfl, rfl, rfl, en, hz, rfl⟩
            | _ => simp [en] at e
        | false => simp [putID] at e
      | _ => simp [putID] at e
    | _ => simp [putID] at e
  | _ => simp [putID] at e
theorem rs_setI {ξ : XR} {o i : Expr} {mo mi : Sl → AH → Option (D × AH)} {tpos : Pos} (hu : X.A.units + 64 < cLine) (hv : RE X e m) (ho : RE X o mo) (hi : RE X i mi) (hp : plainE i = true) (hn : notComp e = true) :
    RS ξ X (.Assign [.Subscript o i tpos] e pos) (fun σ h => (m σ h).bind fun (d, h1) => (mo σ h1).bind fun (x, h2) => (mi σ h2).bind fun (y, h3) => (putID x y d h3).bind fun h4 => some (.nx, σ, h4)) := by
  have hasg : ∀ v, assign (.Subscript o i tpos) X.env v = (do
      let ov ← holding [v] (eval o X.env)
      let iv ← holding [v, ov] (eval i X.env)
      standAt tpos
      holding [v, ov, iv] (setItem ov iv v)
      release [v, ov, iv] []) := by
    intro v
    cases i <;> first | rfl | simp [plainE] at hp
  have hsw : swappedStores [.Subscript o i tpos] e X.env = pure none := by cases e <;> rfl
  refine (ps_asg (pos := pos) hv (pg_sub ho hi (set_ids hu) hasg) (show swapsWith e (some (.Subscript o i tpos)) pos.line X.env = pure false from swaps_no hn _ _ _) hsw rfl).imp fun D σ H ⟨ρ, σd, h, f, σd', h', rs, rh, e, o⟩ => ?_
  cases ea : m σd h with
  | none => simp [ea] at e
  | some p =>
    obtain ⟨d, h1⟩ := p
    cases eb : mo σd h1 with
    | none => simp [ea, eb] at e
    | some p =>
      obtain ⟨x, h2⟩ := p
      cases ec : mi σd h2 with
      | none => simp [ea, eb, ec] at e
      | some p =>
        obtain ⟨y, h3⟩ := p
        cases ed : putID x y d h3 with
        | none => simp [ea, eb, ec, ed] at e
        | some h4 =>
          simp only [ea, eb, ec, ed, Option.bind_some, Option.some.injEq, Prod.mk.injEq] at e
          obtain ⟨rfl, rfl, rfl⟩ := e
          obtain ⟨n, k, ks, rfl, rfl, rfl, en, hz, rfl⟩ := putID_of ed
          refine ⟨ρ, σd, h, _, h1, rs, rh, ea, fun v H1 ρ1 e1 r1 q1 => ⟨ρ1, σd, h1, _, h2, rs.ext e1, r1, eb, fun w H2 ρ2 e2 r2 q2 => ⟨ρ2, σd, h2, _, h3, rs.ext (e1.trans e2), r2, ec, fun u H3 ρ3 e3 r3 q3 => ?_⟩⟩⟩
          obtain ⟨l, rfl, hl⟩ := (DV.ext e3 _ q2).r
          refine ⟨ρ3, h3, n, ks, k, l, r3, hl, rfl, en, q3.i, q1.b, hz, fun H4 e4 r4 => ?_⟩
          have et := e1.trans (e2.trans (e3.trans e4))
          exact o _ _ ρ3 et (rs.ext et) r4
/-! ### in a tuple -/
theorem any_pd (x : D) (cx : closed x = true) : ∀ ds : List D, closeds ds = true → ((pdDs ds).any fun z => PyData.eqv z (pdD x)) = ds.any fun z => eqD z x
  | [], _ => rfl
  | d :: ds, c => by
    simp only [closeds, Bool.and_eq_true] at c
    simp only [pdDs, List.any_cons, pd_eq d x c.1 cx, any_pd x cx ds c.2]
theorem op_inT (hu : X.A.units + 64 < cLine) : OpR X (compareOp .In) (rB X.kw fun x y h => inTD false x (rsv y h)) := by
  intro pins s σ H x y v u Q I rx ry ⟨ρ, h, a, b, d, rh, qa, qb, e, o⟩
  have hd : ∀ c : closed (rsv b h) = true, Dp X.kw H y (pdD (rsv b h)) := fun c => dp_rsv rh c qb
  have e : inTD false a (rsv b h) = some d := e
  cases hb : rsv b h with
  | tup ds =>
    rw [hb] at hd e
    simp only [inTD] at e
    split at e
    case isFalse => cases e
    rename_i hz
    simp only [Bool.and_eq_true, decide_eq_true_eq] at hz
    cases e
    obtain ⟨as, r1⟩ := Dp.reads I _ x v (dp_of a hz.1.1.1 qa) rx
    obtain ⟨bs, r2⟩ := Dp.reads I (.tuple (pdDs ds)) y u (hd hz.1.1.2) ry
    refine SeqAt.in_tuple_reads r2 r1 (pds_lay ds) (pd_lay a) ?_ ⟨.bl _, H, I, rfl, ?_⟩
    · rw [pds_dep, pd_dep]; omega
    · rw [any_pd a hz.1.1.1 ds hz.1.1.2]
      have := o.here rh (DV.bl' _)
      simpa using this
  | lst ds =>
    rw [hb] at hd e
    simp only [inTD] at e
    split at e
    case isFalse => cases e
    rename_i hz
    simp only [Bool.and_eq_true, decide_eq_true_eq] at hz
    cases e
    obtain ⟨as, r1⟩ := Dp.reads I _ x v (dp_of a hz.1.1.1 qa) rx
    obtain ⟨bs, r2⟩ := Dp.reads I (.list (pdDs ds)) y u (hd hz.1.1.2) ry
    refine SeqAt.in_list_reads r2 r1 (pds_lay ds) (pd_lay a) ?_ ⟨.bl _, H, I, rfl, ?_⟩
    · rw [pds_dep, pd_dep]; omega
    · rw [any_pd a hz.1.1.1 ds hz.1.1.2]
      have := o.here rh (DV.bl' _)
      simpa using this
  | _ => rw [hb] at e; simp [inTD] at e
theorem op_notinT (hu : X.A.units + 64 < cLine) : OpR X (compareOp .NotIn) (rB X.kw fun x y h => inTD true x (rsv y h)) := by
  intro pins s σ H x y v u Q I rx ry ⟨ρ, h, a, b, d, rh, qa, qb, e, o⟩
  have hd : ∀ c : closed (rsv b h) = true, Dp X.kw H y (pdD (rsv b h)) := fun c => dp_rsv rh c qb
  have e : inTD true a (rsv b h) = some d := e
  cases hb : rsv b h with
  | tup ds =>
    rw [hb] at hd e
    simp only [inTD] at e
    split at e
    case isFalse => cases e
    rename_i hz
    simp only [Bool.and_eq_true, decide_eq_true_eq] at hz
    cases e
    obtain ⟨as, r1⟩ := Dp.reads I _ x v (dp_of a hz.1.1.1 qa) rx
    obtain ⟨bs, r2⟩ := Dp.reads I (.tuple (pdDs ds)) y u (hd hz.1.1.2) ry
    refine SeqAt.notIn_tuple_reads r2 r1 (pds_lay ds) (pd_lay a) ?_ ⟨.bl _, H, I, rfl, ?_⟩
    · rw [pds_dep, pd_dep]; omega
    · rw [any_pd a hz.1.1.1 ds hz.1.1.2]
      have := o.here rh (DV.bl' _)
      simpa using this
  | lst ds =>
    rw [hb] at hd e
    simp only [inTD] at e
    split at e
    case isFalse => cases e
    rename_i hz
    simp only [Bool.and_eq_true, decide_eq_true_eq] at hz
    cases e
    obtain ⟨as, r1⟩ := Dp.reads I _ x v (dp_of a hz.1.1.1 qa) rx
    obtain ⟨bs, r2⟩ := Dp.reads I (.list (pdDs ds)) y u (hd hz.1.1.2) ry
    refine SeqAt.notIn_list_reads r2 r1 (pds_lay ds) (pd_lay a) ?_ ⟨.bl _, H, I, rfl, ?_⟩
    · rw [pds_dep, pd_dep]; omega
    · rw [any_pd a hz.1.1.1 ds hz.1.1.2]
      have := o.here rh (DV.bl' _)
      simpa using this
  | _ => rw [hb] at e; simp [inTD] at e
theorem op_inTP (hu : X.A.units + 64 < cLine) (ng : Bool) : OpR X (compareOp (inP ng)) (rB X.kw fun x y h => inTD ng x (rsv y h)) := by
  cases ng
  · exact op_inT hu
  · exact op_notinT hu
abbrev mInT (ng : Bool) (ma mb : Sl → AH → Option (D × AH)) : Sl → AH → Option (D × AH) := fun σ h => (ma σ h).bind fun (x, h1) => (mb σ h1).bind fun (y, h2) => (inTD ng x (rsv y h2)).bind fun z => some (z, h2)
theorem re_inT {ng : Bool} (hu : X.A.units + 64 < cLine) (ha : RE X a ma) (hb : RE X b mb) (hm : behindInMarks (inP ng) b = false) : RE X (.Compare a [inP ng] [b] pos) (mInT ng ma mb) :=
  (pe_cmpR (op_inTP hu ng) ha hb hm).imp fun σ H Q q => tOp_imp (g := fun x y h => inTD ng x (rsv y h)) σ H Q q
theorem rt_inT {ng : Bool} (hu : X.A.units + 64 < cLine) (ha : RE X a ma) (hb : RE X b mb) (hm : behindInMarks (inP ng) b = false) : RT X (.Compare a [inP ng] [b] pos) (tstM (mInT ng ma mb)) :=
  (pt_cmpR (op_inTP hu ng) ha hb hm).imp fun σ H Q ⟨ρ, σd, h, d, h', rs, rh, e, o⟩ => by
    cases ea : ma σd h with
    | none => simp [tstM, mInT, ea] at e
    | some p =>
      obtain ⟨x, h1⟩ := p
      cases eb : mb σd h1 with
      | none => simp [tstM, mInT, ea, eb] at e
      | some p =>
        obtain ⟨y, h2⟩ := p
        cases eg : inTD ng x (rsv y h2) with
        | none => simp [tstM, mInT, ea, eb, eg] at e
        | some z =>
          obtain ⟨k, rfl⟩ : ∃ k, z = .bl k := by
            unfold inTD at eg
            split at eg
            · split at eg
              · cases eg; exact ⟨_, rfl⟩
              · cases eg
            · split at eg
              · cases eg; exact ⟨_, rfl⟩
              · cases eg
            · cases eg
          simp [tstM, mInT, ea, eb, eg, truth] at e
          obtain ⟨rfl, rfl⟩ := e
          exact ⟨ρ, σd, h, x, h1, rs, rh, ea, fun v H1 ρ1 e1 r1 q1 => ⟨ρ1, σd, h1, y, h2, rs.ext e1, r1, eb, fun w H2 ρ2 e2 r2 q2 => ⟨ρ2, h2, x, y, .bl k, r2, DV.ext e2 x q1, q2, eg, fun z H3 ρ3 e3 r3 q3 => ⟨k, q3.b, o H3 ρ3 (e1.trans (e2.trans e3)) r3⟩⟩⟩⟩
end
end PyD

/-! PyE9: dicts of tuples that begin empty, sorted(..) of such, pop(0). -/
namespace PyD
open PySem PySem.Spec PyProof.Rows L2
section
variable {X : Cx} {e a b : Expr} {es : List Expr} {pos p : Pos} {m ma mb mc : Sl → AH → Option (D × AH)} {K : Kw} {ρ ρ' : Rho} {H H' : Hp} {h : AH} {pins : List (Addr × Obj)} {σ : L2.St} {s : Shared}
/-! ### {} -/
theorem RepH.pushD (r : RepH K ρ H h) {q : Addr} (n : H q = none) (hz : (q == sysModules) = false) : RepH K (ρ.push q) (upd H q (.ext (dctPhi K.w q []))) (h ++ [.dct []]) := by
  have e : Ext ρ H (ρ.push q) (upd H q (.ext (dctPhi K.w q []))) := Ext.push n
  refine ⟨by simp [Rho.push, r.len], ?_, fun a m => ⟨fun z => ?_, (Ext.fresh (ρ := ρ) n).there a (r.hid a m).2⟩, fun i a u e1 e2 => ?_⟩
  · show (ρ.r ++ [q]).Nodup
    rw [List.nodup_append]
    refine ⟨r.nd, by simp, fun a ha b hb => ?_⟩
    cases List.mem_singleton.mp hb
    intro z; subst z
    exact r.notMem n (.inl ha)
  · rcases List.mem_append.mp z with z | z
    · exact (r.hid a m).1 z
    · cases List.mem_singleton.mp z
      exact r.notMem n (.inr m)
  · have e1 : (ρ.r ++ [q])[i]? = some a := e1
    by_cases hi : i < ρ.r.length
    · rw [List.getElem?_append_left hi] at e1
      rw [List.getElem?_append_left (by rw [← r.len]; exact hi)] at e2
      exact (r.obj i a u e1 e2).ext e (upd_ne (fun z : a = q => r.notMem n (by rw [← z]; exact Rho.mem_get e1)))
    · have h1 : i = ρ.r.length := by
        have := (List.getElem?_eq_some_iff.mp e1).1
        simp at this; omega
      subst h1
      rw [List.getElem?_append_right (Nat.le_refl _)] at e1
      rw [List.getElem?_append_right (by rw [r.len]; exact Nat.le_refl _)] at e2
      simp [r.len] at e1 e2
      subst e1; subst e2
      exact ⟨hz, [], .nil, upd_same⟩
theorem re_dctT : RE X (.Dict [] [] pos) (fun _ h => some (.ref h.length, h ++ [.dct []])) := by
  refine ⟨fun pins s σ H Q I ⟨ρ, σd, h, d, h', rs, rh, e, o⟩ => ?_⟩
  simp only [Option.some.injEq, Prod.mk.injEq] at e
  obtain ⟨rfl, rfl⟩ := e
  have hn := I.hok.fresh (Nat.le_refl s.heap.objs.size)
  have hz : (s.heap.objs.size == sysModules) = false := beq_eq_false_iff_ne.mpr (Ne.symm (Nat.ne_of_lt I.big))
  have I1 := I.laid (a := s.heap.objs.size) (o := .ext (dctPhi X.w s.heap.objs.size [])) (h' := s.heap.push { cls := .type "dict", data := .dict #[] }) (t' := s.toks) (fun _ _ q => Heap.get?_push_of_some _ q) (Nat.le_refl _) (ext_new (P := X.prog) (Heap.DictOfH.new s.heap))
  refine wpAny_Dict_empty ⟨.ref s.heap.objs.size, _, I1, rfl, o _ _ (ρ.push s.heap.objs.size) (Ext.push hn) (rh.pushD hn hz) ?_⟩
  simp only [DV]
  exact ⟨_, rfl, by show (ρ.r ++ [s.heap.objs.size])[h.length]? = some _; rw [← rh.len]; simp⟩
/-! ### l.pop(0) -/
theorem popD_of {x d : D} {h h' : AH} (e : popD x h = some (d, h')) : ∃ n ds, x = .ref n ∧ h[n]? = some (.lst (d :: ds)) ∧ h' = h.set n (.lst ds) := by
  cases x with
  | ref n =>
    simp only [popD] at e
    cases en : h[n]? with
    | none => simp [en] at e
    | some ob =>
      cases ob with
      | lst l =>
        cases l with
        | nil => simp [en] at e
        | cons y ys =>
          simp only [en, Option.some.injEq, Prod.mk.injEq] at e
          obtain ⟨rfl, rfl⟩ := e
          exact ⟨n, ys, rfl, en, rfl⟩
      | _ => simp [en] at e
  | _ => simp [popD] at e
theorem re_pop0 {apos cp : Pos} {ck : Nat} (ha : RE X a ma) (hbase : attributeBase a "pop" X.env (eval a X.env) = eval a X.env) (hline : (apos.endLine == pos.line) = true) :
    RE X (.Call (.Attribute a "pop" apos) [.Constant (.int 0) ck cp] [] pos) (fun σ h => (ma σ h).bind fun (x, h1) => popD x h1) := by
  refine (pe_bm (T := "list") PySem.F.plainAttrs_list PySem.F.slot_list_pop PySem.F.type_list_pop mt_popAt ha (pa_cons pe_int pa_nil rfl) hbase ?_ hline rfl rfl).imp fun σ H Q ⟨ρ, σd, h, d, h', rs, rh, e, o⟩ => ?_
  · rfl
  · cases ea : ma σd h with
    | none => simp [ea] at e
    | some pr =>
      obtain ⟨x, h1⟩ := pr
      simp only [ea, Option.bind_some] at e
      obtain ⟨n, ds, rfl, en, rfl⟩ := popD_of e
      refine ⟨ρ, σd, h, _, h1, rs, rh, ea, fun v H1 ρ1 e1 r1 q1 => ?_⟩
      obtain ⟨l, rfl, hl⟩ := q1.r
      obtain ⟨o1, e3, ok1⟩ := r1.at' hl
      rw [en] at e3; cases e3
      obtain ⟨vs, e4, yl⟩ := ok1
      refine ⟨.inl ⟨rfl, vs, .of e4⟩, ?_⟩
      simp only [DVs] at yl
      obtain ⟨v0, vr, rfl, y0, yr⟩ := yl
      refine ⟨l, v0 :: vr, 0, 0, v0, rfl, rfl, e4, by decide, by decide, ?_, rfl, ?_⟩
      · simp [seqIndex?]
      · have et : Ext ρ1 H1 ρ1 (upd H1 l (.lst vr)) := Ext.mut (List.mem_of_getElem? hl)
        exact o _ _ ρ1 (e1.trans et) (r1.set hl yr) (DV.ext et _ y0)
/-! ### tuples of ints, sorted -/
theorem codeI_eq (B : Int) : ∀ ns : List Int, codeI B ns = TS.code B ns
  | [] => rfl
  | n :: ns => by simp only [codeI, TS.code, codeI_eq B ns]
theorem insT_perm (x : List Int) : ∀ l, (insT x l).Perm (x :: l)
  | [] => .refl _
  | y :: ys => by
    unfold insT
    split
    · exact .refl _
    · exact ((insT_perm x ys).cons y).trans (.swap x y ys)
theorem tsort_perm : ∀ l, (tsort l).Perm l
  | [] => .refl _
  | x :: xs => (insT_perm x (tsort xs)).trans ((tsort_perm xs).cons x)
theorem insT_pw (x : List Int) : ∀ l, l.Pairwise (fun a b => codeI lim6 a ≤ codeI lim6 b) → (insT x l).Pairwise (fun a b => codeI lim6 a ≤ codeI lim6 b)
  | [], _ => by simp [insT]
  | y :: ys, h => by
    obtain ⟨h1, h2⟩ := List.pairwise_cons.mp h
    unfold insT
    split
    case isTrue hx =>
      refine List.pairwise_cons.mpr ⟨fun z hz => ?_, h⟩
      rcases List.mem_cons.mp hz with rfl | hz
      · exact hx
      · exact Int.le_trans hx (h1 z hz)
    case isFalse hx =>
      refine List.pairwise_cons.mpr ⟨fun z hz => ?_, insT_pw x ys h2⟩
      rcases List.mem_cons.mp ((insT_perm x ys).mem_iff.mp hz) with rfl | hz
      · omega
      · exact h1 z hz
theorem tsort_pw : ∀ l, (tsort l).Pairwise (fun a b => codeI lim6 a ≤ codeI lim6 b)
  | [] => .nil
  | x :: xs => insT_pw x _ (tsort_pw xs)
theorem code_inj {B : Int} : ∀ {a b : List Int}, a.length = b.length → TS.Bd B a → TS.Bd B b → TS.code B a = TS.code B b → a = b
  | [], [], _, _, _, _ => rfl
  | [], _ :: _, h, _, _, _ => by simp at h
  | _ :: _, [], h, _, _, _ => by simp at h
  | x :: a, y :: b, h, ha, hb, e => by
    have hl : a.length = b.length := by simpa using h
    have ha' : TS.Bd B a := fun m hm => ha m (List.mem_cons_of_mem _ hm)
    have hb' : TS.Bd B b := fun m hm => hb m (List.mem_cons_of_mem _ hm)
    by_cases hxy : x = y
    · subst hxy
      simp only [TS.code, hl] at e
      rw [code_inj hl ha' hb' (by omega)]
    · exfalso
      rcases Int.lt_or_gt_of_ne hxy with h1 | h1
      · have := TS.code_lt hl ha' hb' h1; omega
      · have := TS.code_lt hl.symm hb' ha' h1; omega
theorem tsort_only {l r : List (List Int)} {d : Nat} (hd : ∀ ns ∈ l, ns.length = d ∧ TS.Bd lim6 ns) (p : r.Perm l) (q : r.Pairwise (fun a b => codeI lim6 a ≤ codeI lim6 b)) : r = tsort l := by
  refine List.Perm.eq_of_pairwise (fun a b ha hb h1 h2 => ?_) q (tsort_pw l) (p.trans (tsort_perm l).symm)
  have ha' := hd a (p.mem_iff.mp ha)
  have hb' := hd b ((tsort_perm l).mem_iff.mp hb)
  rw [codeI_eq, codeI_eq] at h1 h2
  exact code_inj (ha'.1.trans hb'.1.symm) ha'.2 hb'.2 (by omega)
theorem tkey_of {d : D} {ns : List Int} (e : tkey d = some ns) : d = tupI ns := by
  cases d with
  | tup ds => rw [tkey] at e; rw [intsOf_map e]; rfl
  | _ => simp [tkey] at e
theorem tkeysL_of : ∀ {ds : List D} {L : List (List Int)}, tkeysL ds = some L → ds = L.map tupI
  | [], _, e => by simp only [tkeysL, Option.some.injEq] at e; subst e; rfl
  | d :: ds, L, e => by
    simp only [tkeysL, Option.bind_eq_some_iff, Option.map_eq_some_iff] at e
    obtain ⟨k, ek, ks, eks, rfl⟩ := e
    rw [tkey_of ek, tkeysL_of eks]; rfl
theorem okT_of {L : List (List Int)} (h : okT L = true) : L.length < 64 ∧ (∀ ns ∈ L, TS.Bd lim6 ns) ∧ (L.length ≤ 1 ∨ ∃ d, 1 ≤ d ∧ ∀ ns ∈ L, ns.length = d) := by
  unfold okT at h
  simp only [Bool.and_eq_true, Bool.or_eq_true, decide_eq_true_eq, List.all_eq_true] at h
  refine ⟨h.1.1, fun ns hns m hm => by simpa using h.1.2 ns hns m hm, ?_⟩
  rcases h.2 with h2 | h2
  · exact .inl h2
  · cases L with
    | nil => exact .inl (by simp)
    | cons x L =>
      simp only [Bool.and_eq_true, decide_eq_true_eq, List.all_eq_true] at h2
      exact .inr ⟨x.length, h2.1, h2.2⟩
theorem paired_get {α β : Type} {R : α → β → Prop} {xs : List α} {ys : List β} (r : Paired R xs ys) : ∀ {i : Nat} {x : α}, xs[i]? = some x → ∃ y, ys[i]? = some y ∧ R x y := by
  induction r with
  | nil => intro i x h; simp at h
  | cons h t ih =>
    intro i x hx
    cases i with
    | zero => simp only [List.getElem?_cons_zero, Option.some.injEq] at hx ⊢; subst hx; exact ⟨_, rfl, h⟩
    | succ i => simp only [List.getElem?_cons_succ] at hx ⊢; exact ih hx
theorem DVs.of {α : Type} (f : α → D) (g : α → V) : ∀ l : List α, (∀ v ∈ l, DV K ρ H (f v) (g v)) → DVs K ρ H (l.map f) (l.map g)
  | [], _ => .nil
  | v :: l, h => .cons (h v (by simp)) (DVs.of f g l fun u hu => h u (by simp [hu]))
theorem pw_short {α : Type} {R : α → α → Prop} : ∀ {l : List α}, l.length ≤ 1 → l.Pairwise R
  | [], _ => .nil
  | [_], _ => by simp
  | _ :: _ :: _, h => by simp at h
/-- list.sort of tuples that may be sorted here -/
theorem sort_ok {P : Program} {w : World} {A : Around} {E : Value → Shared → Prop} {a : Addr} {vs : List Value} {n : Nat} {R : PySem.Fin → Shared → Prop} {L : List (List Int)} (ho : s.heap.get? a = some (seqObj "list" vs.toArray n)) (hL : okT L = true)
    (hv : ∀ v ∈ vs, TS.TupInts s.heap v (TS.intsOf s.heap v)) (hm : vs.map (TS.intsOf s.heap) = L)
    (h : ∀ out : Array Value, out.toList.Perm vs → out.toList.map (TS.intsOf s.heap) = tsort L → R (.done (.ret .none)) { s with heap := sortedHeap s.heap a vs out }) : wpAny (model P w) A (Builtin.«list.sort» ⟨[.ref a], []⟩) R E s := by
  obtain ⟨l64, bd, sh⟩ := okT_of hL
  have hlen : vs.length = L.length := by rw [← hm, List.length_map]
  have mem : ∀ v ∈ vs, TS.intsOf s.heap v ∈ L := fun v m => by rw [← hm]; exact List.mem_map.mpr ⟨v, m, rfl⟩
  obtain ⟨d, hd⟩ : ∃ d, ∀ ns ∈ L, ns.length = d ∧ TS.Bd lim6 ns := by
    rcases sh with sh | ⟨d, _, hd⟩
    · match L, sh, bd with
      | [], _, _ => exact ⟨0, fun ns m => by cases m⟩
      | [x], _, bd => exact ⟨x.length, fun ns m => by cases List.mem_singleton.mp m; exact ⟨rfl, bd _ m⟩⟩
      | _ :: _ :: _, sh, _ => simp at sh
    · exact ⟨d, fun ns m => ⟨hd ns m, bd ns m⟩⟩
  have fin : ∀ out : List Value, out.Perm vs → out.Pairwise (fun u v => codeI lim6 (TS.intsOf s.heap u) ≤ codeI lim6 (TS.intsOf s.heap v)) → out.map (TS.intsOf s.heap) = tsort L := fun out h1 h2 =>
    tsort_only hd (by rw [← hm]; exact h1.map _) (List.pairwise_map.mpr h2)
  rcases sh with sh | ⟨d', h1, hd'⟩
  · refine SrtO.list_sort_ord (ltv := fun _ _ => false) ⟨fun _ _ z => (by cases z), fun _ _ _ _ _ => rfl⟩ ho (by rw [sizeLine_eq]; omega) (fun h2 => absurd h2 (by omega)) fun out _ st => ?_
    have hp := st.perm
    exact h out.toArray (by simpa using hp) (by simpa using fin out hp (pw_short (by rw [hp.length_eq]; omega)))
  · refine TS.sort_tups ho (by omega) h1 (fun v m => ⟨_, hv v m, hd' _ (mem v m), bd _ (mem v m)⟩) (fun v => codeI lim6 (TS.intsOf s.heap v)) (fun v m ns t => by rw [codeI_eq, t.ints]) fun out p q => h out p (fin _ p q)
def rSrtT (X : Cx) : List V → Hp → VK → Prop := fun vs H Q => ∃ ρ a kvs L, vs = [V.ref a] ∧ AOk X.kw ρ H a (.dct kvs) ∧ tkeys kvs = some L ∧ okT L = true ∧ ∀ p ws, H p = none → DVs X.kw ρ H ((tsort L).map tupI) ws → Q (.ref p) (upd H p (.lst ws))
theorem call_srtT (hc : X.calm = true) : CallR X (.builtin "sorted") (rSrtT X) := by
  intro pins s σ H vs us Q I r ⟨ρ, a, kvs, L, ev, ok, eL, hL, q⟩
  subst ev
  obtain ⟨u, rfl, rx⟩ := vals1 r
  cases rx
  obtain ⟨z, xs, rel, eH, ob, es, ep, ho, hx, hdt, he, hk, hn⟩ := dct_of I ok
  have l64 := (okT_of hL).1
  have ek := tkeysL_of eL
  have n1 : xs.length = L.length := by
    have e1 := congrArg List.length ek
    have e2 := Paired.length rel
    simp only [List.length_map] at e1
    omega
  have n2 : es.size = xs.length := size_of_entries he
  refine Calls.call_function_entry PyProof.Rows.kind_sorted PyProof.Rows.plain_sorted PyProof.Rows.entry_sorted (PyProof.Rows.args_sorted1 _) ?_
  unfold Builtin.«sorted»
  refine wpAny_bind (m := checkCount "sorted" 1 1 _) (wpAny_pure (wpAny_bind (PySem.W.kdu_collect (A := X.A.in1) (kdl_raw z hx hdt) (I.ok.hd hc) ho (by rw [sizeLine_eq]; omega) fun h' tk acc kp hac => ?_)))
  have ea : acc.toList = xs.map fun x => Value.ref x.2.1 := by
    apply List.ext_getElem?
    intro j
    rw [List.getElem?_map]
    cases hj : acc.toList[j]? with
    | none =>
      have g1 := List.getElem?_eq_none_iff.mp hj
      rw [Array.length_toList, hac.1] at g1
      rw [List.getElem?_eq_none (by omega)]
      rfl
    | some v =>
      obtain ⟨en, hen, hv⟩ := hac.2 j v (by rw [← Array.getElem?_toList]; exact hj)
      have qe := entry_at he j
      rw [hen] at qe
      cases hb : xs[j]? with
      | none => rw [hb] at qe; cases qe
      | some y =>
        rw [hb] at qe
        cases qe
        rw [hv]; rfl
  have keyD : ∀ (i : Nat) (ns : List Int), L[i]? = some ns → ∃ y, xs[i]? = some y ∧ DV X.kw ρ H (tupI ns) (.ref y.2.1) := fun i ns hi => by
    have h1 : (kvs.map (·.1))[i]? = some (tupI ns) := by rw [ek, List.getElem?_map, hi]; rfl
    rw [List.getElem?_map] at h1
    cases hkv : kvs[i]? with
    | none => rw [hkv] at h1; cases h1
    | some kv =>
      rw [hkv] at h1
      simp only [Option.map_some, Option.some.injEq] at h1
      obtain ⟨y, hy, ho⟩ := paired_get rel hkv
      exact ⟨y, hy, by rw [← h1]; exact ho.2.2.1⟩
  have I1 : Inv X pins σ H { s with heap := h', toks := tk } := I.kept kp
  have hoL : (h'.push (seqObj "list" acc.toList.toArray 0)).get? h'.objs.size = some (seqObj "list" acc.toList.toArray 0) := Heap.get?_push_size _ rfl
  have up : ∀ b o, h'.get? b = some o → (h'.push (seqObj "list" acc.toList.toArray 0)).get? b = some o := fun b o g => Heap.get?_push_of_some _ g
  have hz : acc.toList.length = L.length := by rw [ea, List.length_map, n1]
  have one : ∀ (i : Nat) (ns : List Int), L[i]? = some ns → ∃ b, acc.toList[i]? = some (.ref b) ∧ DV X.kw ρ H (tupI ns) (.ref b) ∧ TS.TupInts (h'.push (seqObj "list" acc.toList.toArray 0)) (.ref b) ns := fun i ns hi => by
    obtain ⟨y, hy, hd⟩ := keyD i ns hi
    obtain ⟨b, vs, e1, e2, e3⟩ := hd.t
    cases e1
    refine ⟨y.2.1, by rw [ea, List.getElem?_map, hy]; rfl, hd, ?_⟩
    rw [e3.ints] at e2
    exact (tupI_raw I1 e2.sq).keeps fun b o g _ => up b o g
  have all : ∀ v ∈ acc.toList, ∃ ns, ns ∈ L ∧ ∃ b, v = .ref b ∧ DV X.kw ρ H (tupI ns) (.ref b) ∧ TS.TupInts (h'.push (seqObj "list" acc.toList.toArray 0)) (.ref b) ns := fun v hv => by
    obtain ⟨i, hi⟩ := List.getElem?_of_mem hv
    have hlt := (List.getElem?_eq_some_iff.mp hi).1
    obtain ⟨b, g1, g2, g3⟩ := one i _ (List.getElem?_eq_getElem (by omega))
    rw [hi] at g1
    cases g1
    exact ⟨_, List.getElem_mem _, b, rfl, g2, g3⟩
  refine wpAny_bind (wpAny_newList ?_ (by rw [sizeLine_eq]; omega))
  show wpAny _ _ _ _ _ { s with heap := h'.push (seqObj "list" acc.toList.toArray 0), toks := tk }
  refine wpAny_bind (wpAny_holding (wpAny_call_entry PyProof.Rows.slot_list_sort ⟨_, hoL, rfl⟩ PyProof.Rows.entry_list_sort (sort_ok (s := { s with heap := h'.push (seqObj "list" acc.toList.toArray 0), toks := tk }) hoL hL (fun v hv => ?_) ?_ fun out h1 h2 => ⟨_, rfl, ?_⟩) (PyProof.Rows.args_list_sort _)))
  · obtain ⟨ns, _, b, rfl, _, g3⟩ := all v hv
    show TS.TupInts _ _ (TS.intsOf _ _)
    rw [g3.ints]; exact g3
  · apply List.ext_getElem?
    intro i
    rw [List.getElem?_map]
    cases hi : L[i]? with
    | none =>
      rw [List.getElem?_eq_none (by have := List.getElem?_eq_none_iff.mp hi; omega)]
      rfl
    | some ns =>
      obtain ⟨b, g1, _, g3⟩ := one i ns hi
      rw [g1]
      show some (TS.intsOf _ _) = _
      rw [g3.ints]
  · obtain ⟨e', he'⟩ := PyProof.Rows.sortedHeap_at (vs := acc.toList) (out := out) hoL
    have refs : ∀ v ∈ out.toList, ∃ b, v = .ref b := fun v hv => by
      obtain ⟨_, _, b, e, _⟩ := all v (h1.mem_iff.mp hv)
      exact ⟨b, e⟩
    have dvs : DVs X.kw ρ H ((tsort L).map tupI) (out.toList.map bkV) := by
      rw [← h2, List.map_map]
      refine DVs.of _ _ _ fun v hv => ?_
      obtain ⟨ns, _, b, rfl, g2, g3⟩ := all v (h1.mem_iff.mp hv)
      show DV _ _ _ (tupI (TS.intsOf _ _)) _
      rw [g3.ints]; exact g2
    have nl : (out.toList.map bkV).length ≤ sizeLine := by rw [List.length_map, h1.length_eq, sizeLine_eq]; omega
    refine wpAny_pure ⟨_, rfl, .ref h'.objs.size, upd H h'.objs.size (.lst (out.toList.map bkV)), I1.laid (t' := tk) (fun b u e => ?_) (Nat.le_refl _) (show ObjOk X.prog X.w _ _ _ (.lst _) from ⟨nl, out.toList, e', bkV_vals refs, by rw [Array.toArray_toList]; exact he'⟩), rfl, q _ _ (I1.hok.fresh (Nat.le_refl _)) dvs⟩
    rw [PyProof.Rows.sortedHeap_old (Nat.ne_of_lt (Heap.lt_size e)) (by rw [size_push']; exact Nat.lt_succ_of_lt (Heap.lt_size e))]
    exact up b u e
theorem rf_srtT (hc : X.calm = true) (hg : Gl X "sorted") (hm : X.mg "sorted" = none) (ha : RE X a ma) (hp : plainE a = true) : RF X (.Call (.Name "sorted" p) [a] [] pos) (fun σ h => (ma σ h).bind fun (x, h1) => (dctOf x h1).bind fun kvs => (tkeys kvs).bind fun L => if okT L then some ((tsort L).map tupI, h1) else none) :=
  (pe_callB (call_srtT hc) hg hm (by decide +kernel) (pa_cons ha pa_nil (star_cons hp _ _)) (by decide) (by decide) (star_cons hp _ _) rfl).imp fun σ H Q ⟨ρ, σd, h, d, h', rs, rh, e, o⟩ => by
    cases ea : ma σd h with
    | none => simp [ea] at e
    | some pr =>
      obtain ⟨x, h1⟩ := pr
      cases ei : dctOf x h1 with
      | none => simp [ea, ei] at e
      | some kvs =>
        cases ek : tkeys kvs with
        | none => simp [ea, ei, ek] at e
        | some L =>
          simp only [ea, ei, ek, Option.bind_some] at e
          split at e
          case isFalse => cases e
          rename_i hL
          simp only [Option.some.injEq, Prod.mk.injEq] at e
          obtain ⟨rfl, rfl⟩ := e
          refine ⟨ρ, σd, h, x, h1, rs, rh, ea, fun v H1 ρ1 e1 r1 q1 => ?_⟩
          obtain ⟨n, l, rfl, en, rfl, hl, ok⟩ := dctOf_at r1 q1 ei
          exact ⟨ρ1, l, kvs, L, rfl, ok, ek, hL, fun p ws n y => o p _ H1 ρ1 e1 r1 n y⟩
end
end PyD

/-! PyE10: sorted(set(l)), l a list of tuples of ints. -/
namespace PyD
open PySem PySem.Spec PyProof.Rows L2
section
variable {X : Cx} {e a b : Expr} {es : List Expr} {pos p q : Pos} {m ma mb mc : Sl → AH → Option (D × AH)} {K : Kw} {ρ ρ' : Rho} {H H' : Hp} {h : AH} {pins : List (Addr × Obj)} {σ : L2.St} {s : Shared}
theorem tuniq_mem (x : List Int) : ∀ l, x ∈ tuniq l ↔ x ∈ l
  | [] => by simp [tuniq]
  | y :: ys => by
    unfold tuniq
    split
    case isTrue hy =>
      rw [tuniq_mem x ys, List.mem_cons]
      exact ⟨.inr, fun z => z.elim (fun z => by rw [z]; exact hy) id⟩
    case isFalse hy => rw [List.mem_cons, tuniq_mem x ys, List.mem_cons]
theorem tuniq_nd : ∀ l, (tuniq l).Nodup
  | [] => .nil
  | y :: ys => by
    unfold tuniq
    split
    · exact tuniq_nd ys
    · rename_i hy
      exact List.nodup_cons.mpr ⟨fun z => hy ((tuniq_mem y ys).mp z), tuniq_nd ys⟩
/-- a set of one tuple at most, sorted -/
def rSorted1 (X : Cx) : List V → Hp → VK → Prop := fun vs H Q => ∃ (a : Addr) (L : List (Addr × List Int)), vs = [V.ref a] ∧ H a = some (SetTO X.prog X.w a L) ∧ (∀ p ∈ L, SqT X.K H p.1 (p.2.map V.int)) ∧ (∀ p ∈ L, ∀ q ∈ L, p.2 = q.2) ∧
  ∀ (L' : List (Addr × List Int)) (p : Addr), L'.Perm L → (L'.map (·.2)).Nodup → H p = none → Q (.ref p) (upd H p (.lst (L'.map fun q => V.ref q.1)))
theorem call_sorted1 (hc : X.calm = true) : CallR X (.builtin "sorted") (rSorted1 X) := by
  intro pins s σ H vs us Q I r h
  obtain ⟨a, L, rfl, ha, hk, hone, q⟩ := h
  have R0 : SetT0 X.prog X.w s.heap a L := (I.hok a _ ha).1
  obtain ⟨es, ep, t, R⟩ := R0.full fun p hp => I.isT (hk p hp)
  rw [Vals.ref1 r]
  have hl1 : L.length ≤ 1 := by
    match L, R.nd, hone with
    | [], _, _ => simp
    | [_], _, _ => simp
    | x :: y :: _, nd, hone =>
      exfalso
      have e1 := hone x (by simp) y (by simp)
      rw [List.map_cons, List.map_cons, List.nodup_cons] at nd
      exact nd.1 (by rw [e1]; simp)
  obtain ⟨o, ho, hex, hd⟩ := R.ob
  have hsz := R.size
  have hfew := R.few
  refine Calls.call_function_entry PyProof.Rows.kind_sorted PyProof.Rows.plain_sorted PyProof.Rows.entry_sorted (PyProof.Rows.args_sorted1 _) ?_
  unfold Builtin.«sorted»
  refine wpAny_bind (m := checkCount "sorted" 1 1 _) (wpAny_pure ?_)
  refine wpAny_bind (collect_set (A := X.A.in1) (I.ok.hd hc) ⟨o, ho, hex.1, hd⟩ R.fits (by unfold scanBound; omega) R.tab.ris R.led fun s1 vs k1 hz g1 o1 pm => ?_)
  have hes : es.toList.map (·.2) = L.map fun q => Value.ref q.1 := by
    rw [R.rows]
    unfold rowsOf
    rw [List.map_map]; rfl
  rw [hes] at pm
  have small : ∀ {l r : List Value}, l.Perm r → r.length ≤ 1 → l = r := fun {l r} pm hl => by
    match r, hl with
    | [], _ => exact List.Perm.eq_nil pm
    | [x], _ => exact List.perm_singleton.mp pm
    | _ :: _ :: _, hl => simp at hl
  have hvs := small pm (by rw [List.length_map]; exact hl1)
  subst hvs
  have hvl : (L.map fun q => Value.ref q.1).length ≤ 1 := by rw [List.length_map]; exact hl1
  refine wpAny_bind (wpAny_newList ?_ (by rw [sizeLine_eq]; omega))
  have hoL : (s1.heap.push (seqObj "list" (L.map fun q => Value.ref q.1).toArray 0)).get? s1.heap.objs.size = some (seqObj "list" (L.map fun q => Value.ref q.1).toArray 0) := Heap.get?_push_size _ rfl
  show wpAny _ _ _ _ _ { s1 with heap := s1.heap.push (seqObj "list" (L.map fun q => Value.ref q.1).toArray 0) }
  refine wpAny_bind (wpAny_holding (wpAny_call_entry PyProof.Rows.slot_list_sort ⟨_, hoL, rfl⟩ PyProof.Rows.entry_list_sort (SrtO.list_sort_ord (s := { s1 with heap := s1.heap.push (seqObj "list" (L.map fun q => Value.ref q.1).toArray 0) }) (ltv := fun _ _ => false) ⟨fun _ _ z => (by cases z), fun _ _ _ _ _ => rfl⟩ hoL (by rw [sizeLine_eq]; omega) (fun h2 => absurd h2 (by omega)) fun out _ st => ⟨_, rfl, ?_⟩) (PyProof.Rows.args_list_sort _)))
  have hout := small st.perm hvl
  obtain ⟨e', he'⟩ := PyProof.Rows.sortedHeap_at (vs := L.map fun q => Value.ref q.1) (out := out.toArray) hoL
  have hp : s.heap.objs.size ≤ s1.heap.objs.size := hz
  have hn : H s1.heap.objs.size = none := I.hok.fresh hp
  have hlen : (L.map fun q => V.ref q.1).length ≤ sizeLine := by rw [List.length_map, sizeLine_eq]; omega
  have hv : Vals (L.map fun q => V.ref q.1) out.toArray.toList := by rw [List.toList_toArray, hout]; exact vals_of_refs L
  have kk : ∀ b u, s.heap.get? b = some u → (sortedHeap (s1.heap.push (seqObj "list" (L.map fun q => Value.ref q.1).toArray 0)) s1.heap.objs.size (L.map fun q => Value.ref q.1) out.toArray).get? b = some u := fun b u e => by
    have qq := k1 b u e
    have hlt := Heap.lt_size qq
    rw [PyProof.Rows.sortedHeap_old (Nat.ne_of_lt hlt) (by rw [size_push']; exact Nat.lt_succ_of_lt hlt)]
    exact Heap.get?_push_of_some _ qq
  have J : Inv X pins σ (upd H s1.heap.objs.size (.lst (L.map fun q => V.ref q.1))) { s with heap := sortedHeap (s1.heap.push (seqObj "list" (L.map fun q => Value.ref q.1).toArray 0)) s1.heap.objs.size (L.map fun q => Value.ref q.1) out.toArray, gens := s1.gens, drawn := s1.drawn, toks := s1.toks } :=
    I.call (ch := []) (Un.laid kk hp hn) (I.hok.laid kk hp ⟨hlen, out.toArray.toList, e', hv, by rw [Array.toArray_toList]; exact he'⟩) (by rw [g1]; exact I.bare) (fun _ z => nomatch z)
  refine wpAny_pure ⟨_, rfl, .ref s1.heap.objs.size, _, ?_, rfl, q L s1.heap.objs.size (.refl _) R.nd hn⟩
  have e1 : ({ s1 with heap := sortedHeap (s1.heap.push (seqObj "list" (L.map fun q => Value.ref q.1).toArray 0)) s1.heap.objs.size (L.map fun q => Value.ref q.1) out.toArray } : Shared) = { s with heap := sortedHeap (s1.heap.push (seqObj "list" (L.map fun q => Value.ref q.1).toArray 0)) s1.heap.objs.size (L.map fun q => Value.ref q.1) out.toArray, gens := s1.gens, drawn := s1.drawn, toks := s1.toks } := by
    cases s1
    cases s
    cases o1
    rfl
  rw [← e1] at J
  exact J
theorem tups_at : ∀ {L0 : List (List Int)} {vs : List V}, DVs K ρ H (L0.map tupI) vs → ∃ ks : List (Addr × List Int), vs = ks.map (fun p => V.ref p.1) ∧ ks.map (·.2) = L0 ∧ ∀ p ∈ ks, DV K ρ H (tupI p.2) (.ref p.1)
  | [], vs, h => by
    simp only [List.map_nil, DVs] at h
    subst h
    exact ⟨[], rfl, rfl, fun p hp => by cases hp⟩
  | ns :: L0, vs, h => by
    simp only [List.map_cons, DVs] at h
    obtain ⟨v0, vr, rfl, y0, yr⟩ := h
    obtain ⟨ks, e1, e2, e3⟩ := tups_at yr
    obtain ⟨b, ws, rfl, _, _⟩ := y0.t
    refine ⟨(b, ns) :: ks, by rw [e1]; rfl, by rw [List.map_cons, e2], fun p hp => ?_⟩
    rcases List.mem_cons.mp hp with rfl | hp
    · exact y0
    · exact e3 p hp
theorem tup_sq {ns : List Int} {b : Addr} (h : DV K ρ H (tupI ns) (.ref b)) : SqT K H b (ns.map V.int) := by
  obtain ⟨b', ws, e1, e2, e3⟩ := h.t
  cases e1
  rw [e3.ints] at e2
  exact e2.sq
theorem rf_srtS (hc : X.calm = true) (hu : X.A.units + 64 < cLine) (hg : Gl X "sorted") (hm : X.mg "sorted" = none) (hg2 : Gl X "set") (hm2 : X.mg "set" = none) (ha : RE X a ma) (hp : plainE a = true) {p2 pos2 : Pos} : RF X (.Call (.Name "sorted" p) [.Call (.Name "set" p2) [a] [] pos2] [] pos) (fun σ h => (ma σ h).bind fun (x, h1) => (titems x).bind fun L => if okT L then some ((tsort (tuniq L)).map tupI, h1) else none) :=
  have hcr : CallR X (.builtin "sorted") (fun vs H Q => rSortedT X.K X.prog X.w vs H Q ∨ rSorted1 X vs H Q) := fun pins s σ H vs us Q I r h => h.elim (cr_sortedT hc pins s σ H vs us Q I r) (call_sorted1 hc pins s σ H vs us Q I r)
  (pe_callB hcr hg hm (by decide +kernel) (pa_cons (pe_callTy (cr_setOfT hc hu) hg2 hm2 PyProof.Rows.boot_set (pa_cons ha pa_nil (star_cons hp _ _)) (by decide) (by decide) (star_cons hp _ _) rfl) pa_nil rfl) (by decide) (by decide) rfl rfl).imp fun σ H Q ⟨ρ, σd, h, d, h', rs, rh, e, o⟩ => by
    cases ea : ma σd h with
    | none => simp [ea] at e
    | some pr =>
      obtain ⟨x, h1⟩ := pr
      cases ei : titems x with
      | none => simp [ea, ei] at e
      | some L0 =>
        simp only [ea, ei, Option.bind_some] at e
        split at e
        case isFalse => cases e
        rename_i hL
        simp only [Option.some.injEq, Prod.mk.injEq] at e
        obtain ⟨rfl, rfl⟩ := e
        refine ⟨ρ, σd, h, x, h1, rs, rh, ea, fun v H1 ρ1 e1 r1 q1 => ?_⟩
        cases x with
        | lst ds =>
          have hds := tkeysL_of ei
          subst hds
          obtain ⟨l, vs, rfl, hl, hvs⟩ := q1.l
          obtain ⟨ks, rfl, hk2, hk3⟩ := tups_at hvs
          obtain ⟨l64, bd, sh⟩ := okT_of hL
          have hkl : ks.length = L0.length := by rw [← hk2, List.length_map]
          refine ⟨l, ks, rfl, hl.sq (K := X.kw), fun p hp => tup_sq (K := X.kw) (hk3 p hp), by omega, fun a L n hsub hall => ?_⟩
          have en : Ext ρ1 H1 ρ1 (upd H1 a (SetTO X.prog X.w a L)) := Ext.fresh n
          have r2 : RepH X.kw ρ1 (upd H1 a (SetTO X.prog X.w a L)) h1 := r1.fresh n
          have hLs : ∀ p ∈ L, DV X.kw ρ1 (upd H1 a (SetTO X.prog X.w a L)) (tupI p.2) (.ref p.1) := fun p hp => (hk3 p (hsub p hp)).ext en
          have hmem : ∀ p ∈ L, p.2 ∈ L0 := fun p hp => by rw [← hk2]; exact List.mem_map.mpr ⟨p, hsub p hp, rfl⟩
          have fin : ∀ (L' : List (Addr × List Int)) (p : Addr), L'.Perm L → (L'.map (·.2)).Nodup → (L'.map (·.2)).Pairwise (fun a b => codeI lim6 a ≤ codeI lim6 b) → (upd H1 a (SetTO X.prog X.w a L)) p = none → Q (.ref p) (upd (upd H1 a (SetTO X.prog X.w a L)) p (.lst (L'.map fun q => V.ref q.1))) := fun L' p pm nd pw np => by
            have hset : (L'.map (·.2)).Perm (tuniq L0) := (List.perm_ext_iff_of_nodup nd (tuniq_nd L0)).mpr fun ns => by
              rw [tuniq_mem]
              constructor
              · intro hns
                obtain ⟨q, hq, rfl⟩ := List.mem_map.mp hns
                exact hmem q (pm.mem_iff.mp hq)
              · intro hns
                rw [← hk2] at hns
                obtain ⟨q, hq, rfl⟩ := List.mem_map.mp hns
                obtain ⟨q2, hq2, e2⟩ := List.mem_map.mp (hall q hq)
                exact List.mem_map.mpr ⟨q2, pm.mem_iff.mpr hq2, e2⟩
            obtain ⟨dd, hdd⟩ : ∃ dd, ∀ ns ∈ tuniq L0, ns.length = dd ∧ TS.Bd lim6 ns := by
              rcases sh with sh | ⟨dd, _, hd⟩
              · match L0, sh, bd with
                | [], _, _ => exact ⟨0, fun ns m => by cases m⟩
                | [x], _, bd => exact ⟨x.length, fun ns m => by
                    have m := (tuniq_mem ns [x]).mp m
                    cases List.mem_singleton.mp m; exact ⟨rfl, bd _ (by simp)⟩⟩
                | _ :: _ :: _, sh, _ => simp at sh
              · exact ⟨dd, fun ns m => ⟨hd ns ((tuniq_mem ns L0).mp m), bd ns ((tuniq_mem ns L0).mp m)⟩⟩
            have hs := tsort_only hdd hset pw
            refine o p _ _ ρ1 (e1.trans en) r2 np ?_
            rw [← hs, List.map_map]
            exact DVs.of (fun q : Addr × List Int => tupI q.2) (fun q => V.ref q.1) L' fun q hq => hLs q (pm.mem_iff.mp hq)
          rcases sh with sh | ⟨dd, d1, hd⟩
          · refine .inr ⟨a, L, rfl, upd_same, fun p hp => tup_sq (K := X.kw) (hLs p hp), fun p hp q hq => ?_, fun L' p pm nd np => fin L' p pm nd ?_ np⟩
            · have h1 := hmem p hp
              have h2 := hmem q hq
              match L0, sh, h1, h2 with
              | [], _, h1, _ => cases h1
              | [x], _, h1, h2 => rw [List.mem_singleton.mp h1, List.mem_singleton.mp h2]
              | _ :: _ :: _, sh, _, _ => simp at sh
            · refine pw_short ?_
              have hset : ∀ ns ∈ L'.map (·.2), ns ∈ L0 := fun ns hns => by
                obtain ⟨q, hq, rfl⟩ := List.mem_map.mp hns
                exact hmem q (pm.mem_iff.mp hq)
              have key : ∀ M : List (List Int), M.Nodup → (∀ ns ∈ M, ns ∈ L0) → M.length ≤ 1 := fun M nd hset => by
                match M, nd, hset with
                | [], _, _ => simp
                | [_], _, _ => simp
                | y :: z :: _, nd, hset =>
                  exfalso
                  rw [List.nodup_cons] at nd
                  have g1 := hset y (by simp)
                  have g2 := hset z (by simp)
                  have : y = z := by
                    match L0, sh, g1, g2 with
                    | [], _, g1, _ => cases g1
                    | [x], _, g1, g2 => rw [List.mem_singleton.mp g1, List.mem_singleton.mp g2]
                    | _ :: _ :: _, sh, _, _ => simp at sh
                  exact nd.1 (by rw [this]; simp)
              exact key _ nd hset
          · refine .inl ⟨a, L, dd, lim6, rfl, upd_same, fun p hp => tup_sq (K := X.kw) (hLs p hp), d1, fun p hp => ⟨hd _ (hmem p hp), bd _ (hmem p hp)⟩, fun L' p pm nd _ pw np => fin L' p pm nd ?_ np⟩
            exact List.pairwise_map.mpr (pw.imp fun {q r} hqr => by rw [codeI_eq, codeI_eq]; exact hqr)
        | _ => simp [titems] at ei
end
end PyD

/-! PyE11: pop() from the end, the signs of a text one by one, the place of a sign in a text, a def that a name holds. -/
namespace PyD
open PySem PySem.Spec PyProof.Rows L2
theorem popED_of {x d : D} {h h' : AH} (e : popED x h = some (d, h')) : ∃ n ds, x = .ref n ∧ h[n]? = some (.lst ds) ∧ ds[ds.length - 1]? = some d ∧ h' = h.set n (.lst ds.dropLast) := by
  cases x with
  | ref n =>
    simp only [popED] at e
    cases en : h[n]? with
    | none => simp [en] at e
    | some ob =>
      cases ob with
      | lst l =>
        cases ed : l[l.length - 1]? with
        | none => simp [en, ed] at e
        | some y =>
          simp only [en, ed, Option.bind_some, Option.some.injEq, Prod.mk.injEq] at e
          obtain ⟨rfl, rfl⟩ := e
          exact ⟨n, l, rfl, en, ed, rfl⟩
      | _ => simp [en] at e
  | _ => simp [popED] at e
section
variable {X : Cx} {e a b : Expr} {es : List Expr} {pos p : Pos} {m ma mb : Sl → AH → Option (D × AH)} {ms : Sl → AH → Option (List D × AH)}
theorem re_popE {apos : Pos} (ha : RE X a ma) (hbase : attributeBase a "pop" X.env (eval a X.env) = eval a X.env) (hline : (apos.endLine == pos.line) = true) :
    RE X (.Call (.Attribute a "pop" apos) [] [] pos) (fun σ h => (ma σ h).bind fun (x, h1) => popED x h1) := by
  refine (pe_bm0 (T := "list") PySem.F.plainAttrs_list PySem.F.slot_list_pop PySem.F.type_list_pop mt_pop ha hbase hline).imp fun σ H Q ⟨ρ, σd, h, d, h', rs, rh, e, o⟩ => ?_
  cases ea : ma σd h with
  | none => simp [ea] at e
  | some pr =>
    obtain ⟨x, h1⟩ := pr
    simp only [ea, Option.bind_some] at e
    obtain ⟨n, ds, rfl, en, ed, rfl⟩ := popED_of e
    refine ⟨ρ, σd, h, _, h1, rs, rh, ea, fun v H1 ρ1 e1 r1 q1 => ?_⟩
    obtain ⟨l, rfl, hl⟩ := q1.r
    obtain ⟨o1, e3, ok1⟩ := r1.at' hl
    rw [en] at e3; cases e3
    obtain ⟨vs, e4, yl⟩ := ok1
    refine ⟨.inl ⟨rfl, vs, .of e4⟩, ?_⟩
    obtain ⟨v0, y1, y2⟩ := yl.get ed
    have et : Ext ρ1 H1 ρ1 (upd H1 l (.lst vs.dropLast)) := Ext.mut (List.mem_of_getElem? hl)
    exact ⟨l, vs, v0, rfl, rfl, e4, by rw [← yl.length]; exact y1, o _ _ ρ1 (e1.trans et) (r1.set hl yl.dropLast) (DV.ext et _ y2)⟩
/-! ### the signs of a text -/
theorem ofString_sign (c : Char) : Str.ofString (String.singleton c) = ⟨#[c.toNat]⟩ := by
  rw [Str.ofString_eq_toList]
  simp [String.toList_singleton]
theorem cps_at (s : String) (i : Nat) : (Str.ofString s).cps[i]? = (s.toList[i]?).map Char.toNat := by
  rw [Str.ofString_eq_toList]
  simp
theorem cps_size (s : String) : (Str.ofString s).cps.size = s.toList.length := by
  rw [Str.ofString_eq_toList]
  simp
theorem ri_chars {l tg : Expr} (hl : RE X l m) : RI X tg l (fun σ h => (m σ h).bind fun (x, h1) => match x with
    | .str s => some ((signs s).map .str, none, h1)
    | _ => none) :=
  (pi_str hl).imp fun σ H R ⟨ρ, σd, h, xs, n, h', rs, rh, e, o⟩ => by
    cases ea : m σd h with
    | none => simp [ea] at e
    | some p =>
      obtain ⟨x, h1⟩ := p
      cases x with
      | str s =>
        simp only [ea, Option.bind_some, Option.some.injEq, Prod.mk.injEq] at e
        obtain ⟨rfl, rfl, rfl⟩ := e
        refine ⟨ρ, σd, h, _, h1, rs, rh, ea, fun v H1 ρ1 e1 r1 q1 => ?_⟩
        cases q1.s
        refine ⟨_, rfl, o _ H1 ρ1 e1 r1 ?_⟩
        intro ρ' H' h' i e2 r2 _
        have hsz : ((signs s).map D.str).length = s.toList.length := by simp [signs]
        refine ⟨fun hi => ?_, fun x d hx hc => ⟨?_, fun v H'' hy => ?_⟩⟩
        · show (Str.ofString s).cps.size ≤ i
          rw [cps_size, hi, hsz]; exact Nat.le_refl _
        · show i < (Str.ofString s).cps.size
          rw [cps_size, ← hsz]
          exact (List.getElem?_eq_some_iff.mp hx).1
        · obtain ⟨rfl, c, hc1, rfl⟩ := hy
          simp only [cur, Option.some.injEq] at hc
          subst hc
          rw [cps_at] at hc1
          cases es : s.toList[i]? with
          | none => simp [es] at hc1
          | some ch =>
            simp only [es, Option.map_some, Option.some.injEq] at hc1
            subst hc1
            have hx2 : x = .str (String.singleton ch) := by
              simp [signs, es] at hx
              exact hx.symm
            subst hx2
            refine ⟨Ext.refl _ _, r2, ?_⟩
            have := DV.str' (K := X.kw) (ρ := ρ') (H := H'') (String.singleton ch)
            rw [ofString_sign] at this
            exact this
      | _ => simp [ea] at e
/-- the places of its signs in a text, as the text's own method tells them -/
def okIdx (s : String) : Bool := (signs s).all fun b => match sIdx s b with
  | some i => (match Builtin.Str.occurrences (Str.ofString s) (Str.ofString b) 0 (Str.ofString s).length 1 with
    | j :: _ => j == i
    | [] => false)
  | none => false
theorem occ_of {s b : String} {i : Nat} (ho : okIdx s = true) (h : sIdx s b = some i) : ∃ rest, Builtin.Str.occurrences (Str.ofString s) (Str.ofString b) 0 (Str.ofString s).length 1 = i :: rest := by
  have hm : b ∈ signs s := by
    unfold sIdx at h
    obtain ⟨hi, hb, _⟩ := List.findIdx?_eq_some_iff_getElem.mp h
    have : (signs s)[i] = b := by simpa using hb
    rw [← this]
    exact List.getElem_mem hi
  have := List.all_eq_true.mp ho b hm
  rw [h] at this
  simp only at this
  split at this
  · rename_i j rest e
    have : j = i := by simpa using this
    subst this
    exact ⟨rest, e⟩
  · cases this
theorem re_sidx {x : Str} {s : String} {xp apos : Pos} (ho : okIdx s = true) (hg : RE X (.Name x xp) (fun _ h => some (.str s, h))) (ha : RE X a ma) (hp : plainE a = true) (hline : (apos.endLine == pos.line) = true) :
    RE X (.Call (.Attribute (.Name x xp) "index" apos) [a] [] pos) (fun σ h => (ma σ h).bind fun (y, h1) => match y with
      | .str b => (sIdx s b).bind fun i => some (.int (i : Nat), h1)
      | _ => none) := by
  have hs := star_cons hp [] X.env
  refine (pe_bm (T := "str") PySem.F.plainAttrs_str PySem.F.slot_str_index PySem.F.type_str_index mt_sindex hg (pa_cons ha pa_nil hs) rfl ?_ hline hs rfl).imp fun σ H Q ⟨ρ, σd, h, d, h', rs, rh, e, o⟩ => ?_
  · rw [hs]; rfl
  · cases ea : ma σd h with
    | none => simp [ea] at e
    | some pr =>
      obtain ⟨y, h1⟩ := pr
      cases y with
      | str b =>
        cases ei : sIdx s b with
        | none => simp [ea, ei] at e
        | some i =>
          simp only [ea, ei, Option.bind_some, Option.some.injEq, Prod.mk.injEq] at e
          obtain ⟨rfl, rfl⟩ := e
          obtain ⟨rest, hr⟩ := occ_of ho ei
          refine ⟨ρ, σd, h, _, h, rs, rh, rfl, fun v H1 ρ1 e1 r1 q1 => ?_⟩
          cases q1.s
          refine ⟨?_, ρ1, σd, h, _, h1, rs.ext e1, r1, ea, fun w H2 ρ2 e2 r2 q2 => ?_⟩
          · exact rfl
          · cases q2.s
            exact ⟨_, _, i, rest, rfl, rfl, hr, o _ H2 ρ2 (e1.trans e2) r2 (DV.int' _)⟩
      | _ => simp [ea] at e
/-! ### a def that a name holds -/
theorem re_callL {k i : Nat} {fa : Addr} {fd : FuncData} {ps : List Str} {n : Nat} {φ : Fun} {x : String} {y : Str} (F : FnOk X.prog X.w X.kw X.mg X.base CX0 k fa fd ps (spD X.kw n φ)) (hr : Room k X.A) (hm : X.mg (Str.ofString x) = some (.ref fa))
    (hN : X.N[i]? = some y) (hv : Vis X.env.scope y) (hk : PySem.W.keepIn X.kw (.ref fa) = true) (hb : Binds X.kw fd ps []) (ha : RA X es ms) (hp : es.all plainE = true) (hn : es.length = n) (hl : ∀ σ h ds h', ms σ h = some (ds, h') → ds.length = es.length)
    (hdb : (y == ("__debug__" : Str)) = false) (hcd : (y == ("__classdict__" : Str)) = false) (hne : es ≠ []) : RE X (.Call (.Name y p) es [] pos) (fun σ h => match σ[i]? with
      | some (some (.fn z)) => if z = x then (ms σ h).bind fun (ds, h1) => callC φ ds h1 else none
      | _ => none) := by
  cases es with
  | nil => exact absurd rfl hne
  | cons e0 er =>
    rw [List.all_cons, Bool.and_eq_true] at hp
    refine ⟨fun pins s σ H Q I ⟨ρ, σd, h, d, h', rs, rh, e, o⟩ => (pe_callL (i := i) F hr hN hv hk hb .nil pass0 ha hdb hcd (star_cons hp.1 _ _) (star_any _ _ hp.2)).run pins s σ H Q I ?_⟩
    cases es : σd[i]? with
    | none => simp [es] at e
    | some w =>
      cases w with
      | none => simp [es] at e
      | some w =>
        cases w with
        | fn z =>
          simp only [es] at e
          split at e
          case isFalse => cases e
          rename_i hz
          subst hz
          obtain ⟨v, ev, qv⟩ := rs.val i _ es
          obtain ⟨f, rfl, hf⟩ := qv.f
          have hmg := PySem.W.mg_of I.ok.mod.kin I.ok.mod.glob hf
          rw [hm] at hmg
          cases hmg
          cases ea : ms σd h with
          | none => simp [ea] at e
          | some p =>
            obtain ⟨ds, h1⟩ := p
            simp only [ea, Option.bind_some] at e
            refine ⟨ev, ρ, σd, h, ds, h1, rs, rh, ea, fun vs H1 ρ1 e1 r1 q1 => ?_⟩
            show spD X.kw n φ (vs ++ []) H1 Q E0
            rw [List.append_nil]
            exact ⟨by rw [← q1.length, hl _ _ _ _ ea, hn], callC_ok r1 q1 e (o.ext e1)⟩
        | _ => simp [es] at e
end
end PyD

/-! PyD8: the look that ties a def's syntax to the small language; that it is right. -/
namespace PyD
open PySem PySem.Spec PyProof.Rows L2

mutual
def sameD : D → D → Bool
  | .non, .non => true
  | .bl a, .bl b => a == b
  | .int a, .int b => decide (a = b)
  | .str a, .str b => decide (a = b)
  | .tup a, .tup b => sameDs a b
  | .lst a, .lst b => sameDs a b
  | .rol a, .rol b => sameDs a b
  | .ref a, .ref b => decide (a = b)
  | .fn a, .fn b => decide (a = b)
  | _, _ => false
def sameDs : List D → List D → Bool
  | [], [] => true
  | a :: r, b :: s => sameD a b && sameDs r s
  | _, _ => false
end
mutual
theorem sameD_eq : ∀ {a b : D}, sameD a b = true → a = b
  | .non, b, h => by cases b <;> simp [sameD] at h <;> rfl
  | .bl a, b, h => by cases b <;> simp [sameD] at h; rw [h]
  | .int a, b, h => by cases b <;> simp [sameD] at h; rw [h]
  | .str a, b, h => by cases b <;> simp [sameD] at h; rw [h]
  | .tup a, b, h => by cases b <;> simp [sameD] at h; rw [sameDs_eq h]
  | .lst a, b, h => by cases b <;> simp [sameD] at h; rw [sameDs_eq h]
  | .rol a, b, h => by cases b <;> simp [sameD] at h; rw [sameDs_eq h]
  | .ref a, b, h => by cases b <;> simp [sameD] at h; rw [h]
  | .fn a, b, h => by cases b <;> simp [sameD] at h; rw [h]
theorem sameDs_eq : ∀ {a b : List D}, sameDs a b = true → a = b
  | [], b, h => by cases b <;> simp [sameDs] at h; rfl
  | a :: r, b, h => by
    cases b with
    | nil => simp [sameDs] at h
    | cons b s =>
      simp only [sameDs, Bool.and_eq_true] at h
      rw [sameD_eq h.1, sameDs_eq h.2]
end

/-- what the look knows: the def's names, the scope at hand, the defs and constants that may be named -/
structure Ck where
  N : List Str
  sc : Scope
  tab : List (Str × Nat)
  cst : List (Str × D)
  kws : List (Nat × Nat × List Str) := []
  dfl : List (Nat × Nat × List D) := []
  rz : Bool := false
  rzs : List (Nat × Str × Nat) := []
  rx : Str := "BadCode"
  h2 : Str := "Refused"
  h3 : Str := "BadOctets"
  own : Str := "OwnError"
def Ck.vis (ck : Ck) (x : Str) : Bool := match ck.sc.names.lookup x with
  | some .local => true
  | some .cell => true
  | some .free => true
  | _ => false
def Ck.gl (ck : Ck) (x : Str) : Bool := match ck.sc.names.lookup x with
  | some .globalImplicit => true
  | _ => false
def Ck.loc (ck : Ck) (x : Str) : Bool := match ck.sc.names.lookup x with
  | some .local => true
  | some .cell => true
  | _ => false
def Ck.inn (ck : Ck) (sc : Scope) : Ck := { ck with sc := sc }
def okName (x : Str) : Bool := !(x == ("__debug__" : Str)) && !(x == ("__classdict__" : Str)) && !(x == ("" : Str))
def isSet : Expr → Bool
  | .Set .. => true
  | _ => false
def isBase : Expr → Bool
  | .Name .. => true
  | .Subscript .. => true
  | _ => false
mutual
def tstOk : Ex → Bool
  | .not a => tstOk a
  | .bop _ es => tstOks es
  | .ite _ _ _ => false
  | _ => true
def tstOks : Exs → Bool
  | .nil => true
  | .cons e es => tstOk e && tstOks es
end
def lenE : Exs → Nat
  | .nil => 0
  | .cons _ es => lenE es + 1
mutual
def chkT (ck : Ck) : Tg → Expr → Bool
  | .v i, e => (match e with
    | .Name x _ => decide (ck.N[i]? = some x) && ck.loc x
    | _ => false)
  | .t ts, e => (match e with
    | .Tuple es _ _ => chkTs ck ts es
    | _ => false)
def chkTs (ck : Ck) : Tgs → List Expr → Bool
  | .nil, l => l.isEmpty
  | .cons t ts, l => (match l with
    | e :: es => plainE e && chkT ck t e && chkTs ck ts es
    | [] => false)
end
mutual
def chk (ck : Ck) : Ex → Expr → Bool
  | .var i, e => (match e with
    | .Name x _ => decide (ck.N[i]? = some x) && ck.vis x && okName x
    | _ => false)
  | .non, e => (match e with
    | .Constant .none _ _ => true
    | _ => false)
  | .bl b, e => (match e with
    | .Constant (.bool c) _ _ => b == c
    | _ => false)
  | .int i, e => (match e with
    | .Constant (.int j) _ _ => decide (i = j)
    | _ => false)
  | .str s, e => (match e with
    | .Constant (.str t) _ _ => decide (Str.ofString s = t)
    | _ => false)
  | .glob x d, e => (match e with
    | .Name y _ => decide (Str.ofString x = y) && ck.gl y && okName y && ck.cst.any (fun p => decide (p.1 = y) && sameD p.2 d)
    | _ => false)
  | .tup es, e => (match e with
    | .Tuple es' _ _ => decide (es'.length ≤ 1000) && chks ck es es'
    | _ => false)
  | .fv f, e => chkF ck f e
  | .fm f, e => chkF ck f e
  | .bin op a b, e => (match e with
    | .BinOp a' op' b' _ => decide (bopP op = op') && chk ck a a' && chk ck b b'
    | _ => false)
  | .neg a, e => (match e with
    | .UnaryOp .USub a' _ => chk ck a a'
    | _ => false)
  | .cmp op a b, e => (match e with
    | .Compare a' [op'] [b'] _ => decide (copP op = op') && chk ck a a' && chk ck b b' && !behindInMarks op' b'
    | _ => false)
  | .chain op1 op2 a b c, e => (match e with
    | .Compare a' [o1, o2] [b', c'] _ => decide (copP op1 = o1) && decide (copP op2 = o2) && chk ck a a' && chk ck b b' && chk ck c c' && !lastMarks [o1, o2] [b', c']
    | _ => false)
  | .bop i es, e => (match e with
    | .BoolOp op es' _ => decide ((if i then BoolOp.And else BoolOp.Or) = op) && chks ck es es'
    | _ => false)
  | .not a, e => (match e with
    | .UnaryOp .Not a' _ => chk ck a a'
    | _ => false)
  | .ite c a b, e => (match e with
    | .IfExp c' a' b' _ => tstOk c && chk ck c c' && chk ck a a' && chk ck b b'
    | _ => false)
  | .idx a b, e => (match e with
    | .Subscript a' b' _ => plainE b' && chk ck a a' && chk ck b b'
    | _ => false)
  | .slc a lo hi, e => (match e with
    | .Subscript a' (.Slice lo' hi' none _) _ => chk ck a a' && chkO ck lo lo' && chkO ck hi hi'
    | _ => false)
  | .call f args, e => (match e with
    | .Call (.Name x _) es [] _ => decide (ck.tab[f]? = some (x, es.length)) && ck.gl x && okName x && chks ck args es
    | _ => false)
  | .callK f args ks, e => (match e with
    | .Call (.Name x _) es kws _ => decide (ck.tab[f]? = some (x, es.length + kws.length)) && ck.gl x && okName x && !es.isEmpty && chks ck args es && chkK ck ks kws && kws.all (fun k => k.arg.isSome) && decide ((f, es.length, kws.filterMap (·.arg)) ∈ ck.kws)
    | _ => false)
  | .callD f args dfl, e => (match e with
    | .Call (.Name x _) es [] _ => decide (ck.tab[f]? = some (x, es.length + dfl.length)) && ck.gl x && okName x && !es.isEmpty && chks ck args es && ck.dfl.any (fun p => decide (p.1 = f) && decide (p.2.1 = es.length) && sameDs p.2.2 dfl)
    | _ => false)
  | .blt b args, e => (match e with
    | .Call (.Name x _) es [] _ => decide ((bltN b).1 = x) && ck.gl x && !es.isEmpty && chks ck args es
    | _ => false)
  | .isi a t, e => (match e with
    | .Call (.Name x _) [a', .Name y _] [] _ => decide (x = ("isinstance" : Str)) && decide (y = Str.ofString (tyN t)) && ck.gl x && ck.gl y && plainE a' && chk ck a a'
    | _ => false)
  | .comp elt tg it cond own, e => (match e with
    | .ListComp elt' [⟨tg', iter', ifs', 0⟩] sc _ => chkI ck it tg' iter' && !isSet iter' && plainE iter' && blkC ck.N ck.sc sc (own.map fun i => (ck.N.getD i Str.empty, i)) && chkT (ck.inn sc) tg tg' &&
      (slots tg).all (fun i => decide (i ∈ own)) && chkC (ck.inn sc) cond ifs' && chk (ck.inn sc) elt elt'
    | _ => false)
  | .app l x, e => (match e with
    | .Call (.Attribute l' nm apos) [e'] [] pos => decide (nm = ("append" : Str)) && isBase l' && (apos.endLine == pos.line) && plainE e' && chk ck l l' && chk ck x e'
    | _ => false)
  | .ext l x, e => (match e with
    | .Call (.Attribute l' nm apos) [e'] [] pos => decide (nm = ("extend" : Str)) && isBase l' && (apos.endLine == pos.line) && plainE e' && chk ck l l' && chk ck x e'
    | _ => false)
  | .dct0, e => (match e with
    | .Dict [] [] _ => true
    | _ => false)
  | .dct1 k v, e => (match e with
    | .Dict [some k'] [v'] _ => chk ck k k' && chk ck v v'
    | _ => false)
  | .inD ng a b, e => (match e with
    | .Compare a' [op'] [b'] _ => decide (inP ng = op') && chk ck a a' && chk ck b b' && !behindInMarks op' b'
    | _ => false)
  | .idxD _ _, _ => false
  | .dctT, e => (match e with
    | .Dict [] [] _ => true
    | _ => false)
  | .pop0 l, e => (match e with
    | .Call (.Attribute l' nm apos) [.Constant (.int 0) _ _] [] pos => decide (nm = ("pop" : Str)) && isBase l' && (apos.endLine == pos.line) && chk ck l l'
    | _ => false)
  | .callL i x g args, e => (match e with
    | .Call (.Name y _) es [] _ => decide (ck.N[i]? = some y) && ck.vis y && okName y && decide (ck.tab[g]? = some (Str.ofString x, es.length)) && !es.isEmpty && okName (Str.ofString x) && chks ck args es
    | _ => false)
  | .popE l, e => (match e with
    | .Call (.Attribute l' nm apos) [] [] pos => decide (nm = ("pop" : Str)) && isBase l' && (apos.endLine == pos.line) && chk ck l l'
    | _ => false)
  | .sidx x s a, e => (match e with
    | .Call (.Attribute (.Name y _) nm apos) [a'] [] pos => decide (nm = ("index" : Str)) && decide (Str.ofString x = y) && ck.gl y && okName y && ck.cst.any (fun p => decide (p.1 = y) && sameD p.2 (.str s)) && okIdx s && (apos.endLine == pos.line) && plainE a' && chk ck a a'
    | _ => false)
  | .inT ng a b, e => (match e with
    | .Compare a' [op'] [b'] _ => decide (inP ng = op') && chk ck a a' && chk ck b b' && !behindInMarks op' b'
    | _ => false)
def chks (ck : Ck) : Exs → List Expr → Bool
  | .nil, l => l.isEmpty
  | .cons x xs, l => (match l with
    | e :: es => plainE e && chk ck x e && chks ck xs es
    | [] => false)
def chkK (ck : Ck) : Exs → List Keyword → Bool
  | .nil, l => l.isEmpty
  | .cons x xs, l => (match l with
    | k :: ks => chk ck x k.value && chkK ck xs ks
    | [] => false)
def chkO (ck : Ck) : Ox → Option Expr → Bool
  | .no, o => o.isNone
  | .so x, o => (match o with
    | some e => chk ck x e
    | none => false)
/-- a comprehension's tests -/
def chkC (ck : Ck) : Ox → List Expr → Bool
  | .no, l => l.isEmpty
  | .so x, l => (match l with
    | [e] => tstOk x && chk ck x e
    | _ => false)
def chkF (ck : Ck) : Fx → Expr → Bool
  | .disp es, e => (match e with
    | .List es' _ => decide (es'.length ≤ 1000) && chks ck es es'
    | _ => false)
  | .rep a n, e => (match e with
    | .BinOp a' .Mult n' _ => chk ck a a' && chk ck n n'
    | _ => false)
  | .cat a b, e => (match e with
    | .BinOp a' .Add b' _ => chk ck a a' && chk ck b b'
    | _ => false)
  | .ofSeq x, e => (match e with
    | .Call (.Name y _) [e'] [] _ => decide (y = ("list" : Str)) && ck.gl y && plainE e' && chk ck x e'
    | _ => false)
  | .rng1 b, e => (match e with
    | .Call (.Name x _) [.Call (.Name y _) [b'] [] _] [] _ => decide (x = ("list" : Str)) && decide (y = ("range" : Str)) && ck.gl x && ck.gl y && plainE b' && chk ck b b'
    | _ => false)
  | .rng2 a b, e => (match e with
    | .Call (.Name x _) [.Call (.Name y _) [a', b'] [] _] [] _ => decide (x = ("list" : Str)) && decide (y = ("range" : Str)) && ck.gl x && ck.gl y && plainE a' && plainE b' && chk ck a a' && chk ck b b'
    | _ => false)
  | .cut a lo hi, e => (match e with
    | .Subscript a' (.Slice lo' hi' none _) _ => chk ck a a' && chkO ck lo lo' && chkO ck hi hi'
    | _ => false)
  | .rev a, e => (match e with
    | .Subscript a' (.Slice none none (some (.UnaryOp .USub (.Constant (.int 1) _ _) _)) _) _ => chk ck a a'
    | _ => false)
  | .srtS x, e => (match e with
    | .Call (.Name y _) [.Call (.Name z _) [e'] [] _] [] _ => decide (y = ("sorted" : Str)) && decide (z = ("set" : Str)) && ck.gl y && ck.gl z && plainE e' && chk ck x e'
    | _ => false)
  | .srtT x, e => (match e with
    | .Call (.Name y _) [e'] [] _ => decide (y = ("sorted" : Str)) && ck.gl y && plainE e' && chk ck x e'
    | _ => false)
  | .srt x, e => (match e with
    | .Call (.Name y _) [e'] [] _ => decide (y = ("sorted" : Str)) && ck.gl y && plainE e' && chk ck x e'
    | _ => false)
def chkI (ck : Ck) : It → Expr → Expr → Bool
  | .seq x, _, e => chk ck x e
  | .chars x, _, e => chk ck x e
  | .rng1 b, _, e => (match e with
    | .Call (.Name x _) [b'] [] _ => decide (x = ("range" : Str)) && ck.gl x && plainE b' && chk ck b b'
    | _ => false)
  | .rng2 a b, _, e => (match e with
    | .Call (.Name x _) [a', b'] [] _ => decide (x = ("range" : Str)) && ck.gl x && plainE a' && plainE b' && chk ck a a' && chk ck b b'
    | _ => false)
  | .enum a, t, e => (match t, e with
    | .Tuple .., .Call (.Name x _) [a'] [] _ => decide (x = ("enumerate" : Str)) && ck.gl x && plainE a' && chk ck a a'
    | _, _ => false)
  | .zip a b, t, e => (match t, e with
    | .Tuple .., .Call (.Name x _) [a', b'] [] _ => decide (x = ("zip" : Str)) && ck.gl x && plainE a' && plainE b' && chk ck a a' && chk ck b b'
    | _, _ => false)
end

/-- the names of built-ins that are used: no name of the module -/
def bltNames : List Str := ["len", "abs", "int", "min", "max", "str", "tuple", "all", "any", "bool", "list", "range", "enumerate", "zip", "isinstance", "sum", "sorted", "set"]
/-- where an expression stands -/
structure OkE (ck : Ck) (C : Nat → Fun) (X : Cx) : Prop where
  hN : X.N = ck.N
  nd : ck.N.Nodup
  vis : ∀ x, ck.vis x = true → Vis X.env.scope x
  gl : ∀ x, ck.gl x = true → Gl X x
  loc : ∀ x, ck.loc x = true → Loc X.env.scope x ∧ (X.fn x = true ∨ X.env.scope.names.lookup x = some .local)
  cf : ∀ x, (ck.sc.names.lookup x = some .cell ∨ ck.sc.names.lookup x = some .free) → (X.env.scope.names.lookup x = some .cell ∨ X.env.scope.names.lookup x = some .free)
  kind : X.env.scope.kind = .function
  calm : X.calm = true
  fns : ∃ k, Room k X.A ∧ ∀ i name ar, ck.tab[i]? = some (name, ar) → (name == ("" : Str)) = false → ∃ f fd ps, FnOk X.prog X.w X.kw X.mg X.base CX0 k f fd ps (spD X.kw ar (C i)) ∧ X.mg name = some (.ref f) ∧ PySem.W.keepIn X.kw (.ref f) = true ∧ Binds X.kw fd ps [] ∧ (∀ j ks, (i, j, ks) ∈ ck.kws → KBinds X.kw fd ps ks (gJ j) (gJ j)) ∧ (∀ j ds, (i, j, ds) ∈ ck.dfl → ∃ dvs dus, Binds X.kw fd ps dus ∧ Vals dvs dus ∧ ∀ ρ H, DVs X.kw ρ H ds dvs)
  cst : ∀ x d, (x, d) ∈ ck.cst → ∃ u v, X.mg x = some u ∧ RelV v u ∧ ∀ ρ H, DV X.kw ρ H d v
  blt : ∀ x ∈ bltNames, X.mg x = none
theorem OkE.room {ck : Ck} {C : Nat → Fun} {X : Cx} (ok : OkE ck C X) : X.A.units + 64 < cLine := by
  obtain ⟨k, hr, _⟩ := ok.fns
  have := hr.un
  omega
theorem relabel_look {env : Env} : ∀ {names : List (Str × NameKind)} {x : Str}, ∃ g : NameKind → NameKind, (∀ k, g k = k ∨ (k = .free ∧ g k = .cell)) ∧
    (names.map fun (n, k) => if (k == NameKind.free && env.scope.kind == .function && env.kindOf n == some .cell) then (n, NameKind.cell) else (n, k)).lookup x = (names.lookup x).map g
  | [], x => ⟨id, fun _ => .inl rfl, rfl⟩
  | (n, k) :: r, x => by
    obtain ⟨g, hg, ih⟩ := relabel_look (env := env) (names := r) (x := x)
    rw [List.map_cons]
    show ∃ g : NameKind → NameKind, _ ∧ List.lookup x ((if (k == NameKind.free && env.scope.kind == .function && env.kindOf n == some .cell) = true then (n, NameKind.cell) else (n, k)) :: _) = (List.lookup x ((n, k) :: r)).map g
    cases hx : x == n with
    | false =>
      refine ⟨g, hg, ?_⟩
      rw [show List.lookup x ((n, k) :: r) = List.lookup x r by rw [List.lookup_cons, hx]]
      split <;> (rw [List.lookup_cons, hx]; exact ih)
    | true =>
      rw [show List.lookup x ((n, k) :: r) = some k by rw [List.lookup_cons, hx]]
      by_cases hc : (k == NameKind.free && env.scope.kind == .function && env.kindOf n == some .cell) = true
      · rw [if_pos hc, List.lookup_cons, hx]
        have hk : k = .free := by
          simp only [Bool.and_eq_true, beq_iff_eq] at hc
          exact hc.1.1
        subst hk
        exact ⟨fun k => if k = .free then .cell else k, fun k => by by_cases e : k = .free <;> simp [e], by simp⟩
      · rw [if_neg hc, List.lookup_cons, hx]
        exact ⟨id, fun _ => .inl rfl, rfl⟩
theorem OkE.blk {ck : Ck} {C : Nat → Fun} {X : Cx} (ok : OkE ck C X) (scope : Scope) (hk : scope.kind = .function) (s : Shared) (H : Hp) (Ca : Addr) (cl : List (Str × Addr)) (fp : List Addr) :
    OkE (ck.inn scope) C (X.blk s H scope (compEnvC scope cl Ca X.env) fp) := by
  have look : ∀ x, ∃ g : NameKind → NameKind, (∀ k, g k = k ∨ (k = .free ∧ g k = .cell)) ∧ (compEnvC scope cl Ca X.env).scope.names.lookup x = (scope.names.lookup x).map g := fun x => relabel_look
  refine ⟨ok.hN, ok.nd, fun x h => ?_, fun x h => ?_, fun x h => ?_, fun x h => ?_, hk, ok.calm, ok.fns, ok.cst, ok.blt⟩
  · obtain ⟨g, hg, e⟩ := look x
    unfold Ck.vis at h
    show _ ∨ _ ∨ _
    have h' : (match scope.names.lookup x with | some .local => true | some .cell => true | some .free => true | _ => false) = true := h
    cases q : scope.names.lookup x with
    | none => rw [q] at h'; cases h'
    | some k =>
      rw [q] at h' e
      rw [show (X.blk s H scope (compEnvC scope cl Ca X.env) fp).env.scope.names.lookup x = _ from e]
      cases k with
      | «local» => rcases hg .local with z | ⟨z, _⟩ <;> simp_all
      | cell => rcases hg .cell with z | ⟨z, _⟩ <;> simp_all
      | free => rcases hg .free with z | ⟨_, z⟩ <;> simp_all
      | _ => cases h'
  · obtain ⟨g, hg, e⟩ := look x
    have h' : (match scope.names.lookup x with | some .globalImplicit => true | _ => false) = true := h
    show (compEnvC scope cl Ca X.env).scope.names.lookup x = some .globalImplicit
    cases q : scope.names.lookup x with
    | none => rw [q] at h'; cases h'
    | some k =>
      rw [q] at h' e
      cases k with
      | globalImplicit => rw [e]; rcases hg .globalImplicit with z | ⟨z, _⟩ <;> simp_all
      | _ => cases h'
  · obtain ⟨g, hg, e⟩ := look x
    have h' : (match scope.names.lookup x with | some .local => true | some .cell => true | _ => false) = true := h
    show ((compEnvC scope cl Ca X.env).scope.names.lookup x = some .local ∨ (compEnvC scope cl Ca X.env).scope.names.lookup x = some .cell) ∧ ((scope.names.lookup x == some .cell) = true ∨ (compEnvC scope cl Ca X.env).scope.names.lookup x = some .local)
    cases q : scope.names.lookup x with
    | none => rw [q] at h'; cases h'
    | some k =>
      rw [q] at h' e
      cases k with
      | «local» => rcases hg .local with z | ⟨z, _⟩ <;> simp_all
      | cell => rcases hg .cell with z | ⟨z, _⟩ <;> simp_all
      | _ => cases h'
  · obtain ⟨g, hg, e⟩ := look x
    show (compEnvC scope cl Ca X.env).scope.names.lookup x = some .cell ∨ (compEnvC scope cl Ca X.env).scope.names.lookup x = some .free
    have h : scope.names.lookup x = some .cell ∨ scope.names.lookup x = some .free := h
    rcases h with h | h
    · rw [h] at e; rcases hg .cell with z | ⟨z, _⟩ <;> simp_all
    · rw [h] at e; rcases hg .free with z | ⟨_, z⟩ <;> simp_all
theorem OkE.blkOk {ck : Ck} {C : Nat → Fun} {X : Cx} (ok : OkE ck C X) {scope : Scope} {own : List (Str × Nat)} (h : blkC ck.N ck.sc scope own = true) : BlkOk X.N X.env.scope scope own := by
  have b := blkOk_by h
  rw [ok.hN]
  exact ⟨b.kind, b.uniq, b.ix, fun y hy e => ok.cf _ (b.free y hy e), b.own⟩
end PyD

/-! PyX1: an own exception over an own class over ValueError, whose __init__ says super().__init__(text) and stores one field, at. -/
namespace PyD
namespace Bad
open PySem PySem.Spec PyProof.Rows L2
open PySem.W PySem.Calls PySem.HandSPX
def iA (p1 p2 : Pos) : Arguments := { posonlyargs := [], args := [{ arg := "self", annotation := none, pos := p1 }, { arg := "at", annotation := none, pos := p2 }], vararg := none, kwonlyargs := [], kw_defaults := [], kwarg := none, defaults := [] }
def iB (msg : Str) (n : Nat) (q1 q2 q3 q4 q5 q6 q7 q8 q9 q10 : Pos) : List Stmt :=
  [.Expr (.Call (.Attribute (.Call (.Name "super" q1) [] [] q2) "__init__" q3) [.Constant (.str msg) n q4] [] q5) q6, .Assign [.Attribute (.Name "self" q7) "at" q8] (.Name "at" q9) q10]
def iS : Scope := { kind := .function, names := [(PySem.Str.ofString "self", .local), (PySem.Str.ofString "at", .local), (PySem.Str.ofString "__class__", .free), (PySem.Str.ofString "super", .globalImplicit)], isGenerator := false, isCoroutine := false, more := [] }
/-- what the written part says of the class at C and of its __init__, at fI -/
structure Txt (P : Program) (K : Frag) (mg : Str → Option Value) (x : Str) (C fI : Addr) : Prop where
  gC : mg x = some (.ref C)
  cls : ∃ nm q N bs bm sn sub ab col dd k0 k1 k2 k3 k5, K.lookup C = some (excClassObj nm q C N bs bm true sn sub ab col dd k0 k1 k2 k3 k5 "ValueError.__new__") ∧ refsVE bm = true
  sa : findIn K (.ref C) "__setattr__" = some (some (.builtin "object.__setattr__"))
  noN : findIn K (.ref C) "at" = some none
  iC : findIn K (.ref C) "__init__" = some (some (.ref fI))
  tC : typeIn K (.ref fI) = some (.type "function")
  kC : keepIn K (.ref C) = true
  exC : subIn K (.ref C) (.type "BaseException") = some true
  tyC : typeIn K (.ref C) = some (.type "type")
  veC : subIn K (.ref C) (.type "ValueError") = some true
  selfC : mroIn K C (.ref C) = some true
  noS : mg "super" = none
  opq : nsIn K cStatics "thirdparty.any" = some none
  sup : ks_superIn K C C "__init__" = some (some (.builtin "ValueError.__init__"))
  top : (P.main.scope.names.lookup ("super" : Str)).isSome = false
  fn : ∃ (oc : Value) (od : Option Addr) (doc pm ct : Value) (an : Option Addr) (cda cc : Addr) (osl : Array (Option Value)) (qual : Str) (msg : Str) (n : Nat) (p1 p2 q1 q2 q3 q4 q5 q6 q7 q8 q9 q10 : Pos),
    K.lookup fI = some ⟨oc, od, .func (ksFn "__init__" qual (iA p1 p2) (iB msg n q1 q2 q3 q4 q5 q6 q7 q8 q9 q10) iS .none .none doc pm an (.ref cda) ct cc), osl⟩ ∧ codeIn K (.ref cda) qual = true ∧ (q3.endLine == q5.line) = true ∧
    (∃ (ccl : Value) (cdd : Option Addr) (vs : Array Value) (ccs : Array (Option Value)) (file : Str) (tf : Tok), K.lookup cda = some ⟨ccl, cdd, .fields vs, ccs⟩ ∧ vs[2]? = some (.str file tf) ∧ ((P.main.file : Str) == file) = true) ∧
    (∃ (cl : Value) (cld : Option Addr) (csl : Array (Option Value)), K.lookup cc = some ⟨cl, cld, .cell (some (.ref C)), csl⟩)
structure InitEnd (h h' : Heap) (x C dx t1 : Addr) (v : Value) : Prop where
  keep : ∀ b o, b ≠ x → h.get? b = some o → h'.get? b = some o
  obj : h'.get? x = some { cls := .ref C, dict := some dx, data := .fields #[.ref t1, .none, .none, .none, .bool false, .none] }
  dbig : h.objs.size ≤ dx
  dne : dx ≠ x
  ns : h'.Ns1 dx (fun y => if y = "at" then some v else none)
structure OwnMade (h h' : Heap) (e C d : Addr) (v : Value) : Prop where
  keep : ∀ b o, h.get? b = some o → h'.get? b = some o
  new : h.objs.size ≤ e
  obj : ∃ oe vs, h'.get? e = some oe ∧ oe.cls = .ref C ∧ oe.dict = some d ∧ oe.data = .fields vs ∧ vs[1]? = some .none
  dbig : h.objs.size ≤ d
  dne : d ≠ e
  ns : h'.Ns1 d (fun y => if y = "at" then some v else none)
section
variable {prog : Program} {w : World} {A : Around} {E : Value → Shared → Prop} {R : Result → Shared → Prop} {s : Shared} {K : Frag} {mg mb : Str → Option Value} {C fI : Addr} {nm : Str}
/-- super().__init__(..), the wrapper called -/
theorem call_bw {h : Heap} {g : Array GenState} {d : Drawn} {t : Nat} {os : OsState} {nmC q : Str} {N : Addr} {bs bm : List Value} {hdct : Bool} {sn : List Str} {sub : List Value} {ab : Bool} {col : Option Bool} {dd : Option Addr} {k0 k1 k2 k3 k5 : Option Value} {u e t0 : Addr} {rest : List Value} {Q : Value → Shared → Prop}
    (hC : h.get? C = some (excClassObj nmC q C N bs bm hdct sn sub ab col dd k0 k1 k2 k3 k5 "ValueError.__new__")) (he : h.get? e = some (excO C t0)) (hu : h.get? u = some (kxs_mw "ValueError.__init__" e)) (hrest : rest.length ≤ sizeLine)
    (hq : ∀ h' t1, (∀ b o, b ≠ e → h.get? b = some o → h'.get? b = some o) → h'.get? e = some (excO C t1) → Q .none ⟨h', g, d, t, os⟩) :
    wpAny (model prog w) A (call (.ref u) rest) Q E ⟨h, g, d, t, os⟩ := by
  refine wpAny_call (codeAny_of_tree ?_)
  show wpAny _ A.in1 (callAny (.ref u) ⟨rest, []⟩) _ _ _
  simp only [callAny]
  refine wpAny_bind (wpAny_load hu ?_)
  simp only [kxs_mw, show (Value.type "method-wrapper" == Value.type "method" || Value.type "method-wrapper" == Value.type "builtin_function_or_method" || Value.type "method-wrapper" == Value.type "method-wrapper") = true by decide, if_true]
  refine KFB.if_so (by decide) ?_
  refine wpAny_bind (check_bound_init F.excBase_ValueError.toExcCallFacts hC he rfl ?_)
  refine wpAny_bind (wpAny_pure (wpAny_pure ?_))
  refine ⟨plainId_quiet F.excBase_ValueError.init.plain _, codeAny_builtin F.excBase_ValueError.initEntry ?_⟩
  exact exc_init_tree (cls := .ref C) (t0 := t0) (dv := none) (c2 := .none) (c3 := .none) (b4 := .bool false) he hrest fun h' k e' _ => hq h' _ k e'
theorem mcall {env : Env} {M : Model} {c : Code} {o : Expr} {name : Str} {apos pos : Pos} {args : List Expr} {Q : Value → Shared → Prop}
    (h : PySem.wpAt M A c (attributeBase o name env (eval o env)) (fun ov s₁ => wpAny M A (getMethod ov name (do return (← importBound o env).getD true)) (fun fx s₂ => wpAny M A (callWith pos fx.1 fx.2 (backTo pos (starEach args env)) []) Q E s₂) E s₁) E s)
    (hform : methodCallForm (args.length + ([] : List Keyword).length) (backTo pos (starEach args env)) (backToKw pos (keywordEach [] env)) = true) (hline : (apos.endLine == pos.line) = true) :
    PySem.wpAt M A c (eval (.Call (.Attribute o name apos) args [] pos) env) Q E s := by
  have hpos : methodCallPos true o env apos pos = pure pos := by unfold methodCallPos; simp [hline]
  rw [arm_eval_Call]
  refine PySem.wpAt_bind (PySem.wpAt_mono h (fun ov s₁ h₁ => PySem.wpAt_of_wpAny (wpAny_bind (wpAny_standAt ?_))) fun _ _ x => x)
  unfold methodCall
  rw [hform]
  refine wpAny_bind (wpAny_holding ?_)
  show wpAny _ _ (getMethod ov name (do return (← importBound o env).getD true)) _ _ _
  refine wpAny_mono h₁ (fun fx s₂ h₂ => ?_) fun _ _ x => x
  exact wpAny_bind (wpAny_of_eq hpos h₂)
theorem bad_init (T : Txt prog K mg nm C fI) {x t0 : Addr} {v : Value} (X : K.In s.heap) (hlim : s.heap.NoLimit) (hG : s.heap.Ns mainGlobals mg) (hB : s.heap.Ns builtinsNs mb) (hmb : mb "super" = some (.type "super"))
    (hx : s.heap.get? x = some (excO C t0)) (hnx : K.lookup x = none) (hroom : A.depth < recursionLimit)
    (hq : ∀ h' tk dx t1, InitEnd s.heap h' x C dx t1 v → R (.ok (.ret .none)) { s with heap := h', toks := tk }) :
    codeAny (model prog w) A (.call (.ref fI) ⟨[.ref x, v], []⟩) R s := by
  obtain ⟨oc, od, doc, pm, ct, an, cda, cc, osl, qual, msg, n, p1, p2, q1, q2, q3, q4, q5, q6, q7, q8, q9, q10, ho, hcd, hln, ⟨ccl, cdd, vs, ccs, file, tf, hcode, hvs, hfile⟩, ⟨cl, cld, csl, hcell⟩⟩ := T.fn
  obtain ⟨nmC, qC, N, bs, bm, sn, sub, ab, col, dd, k0, k1, k2, k3, k5, hC, hbm⟩ := T.cls
  have hcl : clsIn K C = some { name := nmC, bases := bs, mro := .ref C :: bm, ns := N, qualname := qC, hasDict := true, slotNames := sn, subclasses := sub, abstract := ab, collection := col, hasDel := false } := by unfold clsIn; rw [hC] <;> rfl
  refine ks_codeAny_call_defAt (fd := ksFn "__init__" qual (iA p1 p2) (iB msg n q1 q2 q3 q4 q5 q6 q7 q8 q9 q10) iS .none .none doc pm an (.ref cda) ct cc) (body := iB msg n q1 q2 q3 q4 q5 q6 q7 q8 q9 q10) (binds := [("self", .ref x), ("at", v)])
    hroom (X _ _ ho) rfl hlim (codeRec_of X hcd) rfl (BindsTo.of_eq (by first | rfl | with_unfolding_all rfl)) (show ∀ x ∈ iS.names, x.2 ≠ .cell by decide) (by simp only [List.mem_cons, List.not_mem_nil, or_false]; rintro y (rfl | rfl) <;> rfl) (fun h₁ hns k => ?_) rfl rfl rfl
  have X₁ : K.In h₁ := X.keeps k
  have hx₁ := k _ _ hx
  refine ks_wpAt_execs_cons (ks_wpAt_Expr_any (mcall ?_ rfl hln))
  refine ks_wpAt_super_base (f := fI) (cc := cda) rfl rfl rfl rfl (X₁ _ _ ho) rfl rfl rfl (X₁ _ _ hcode) rfl hvs hfile T.top ?_
  have hn₁ : h₁.Ns s.heap.objs.size (fun y => ([(("self" : Str), Value.ref x), ("at", v)] : List (Str × Value)).reverse.lookup y) := hns
  refine ks_loadName_global rfl rfl (loadGlobal_builtin (env := callEnv (ksFn "__init__" qual (iA p1 p2) (iB msg n q1 q2 q3 q4 q5 q6 q7 q8 q9 q10) iS .none .none doc pm an (.ref cda) ct cc) s.heap.objs.size fI) (hG.keeps k) T.noS (hB.keeps k) hmb ⟨rfl, ?_⟩)
  refine wpAny_loadName_free rfl rfl rfl ⟨_, X₁ _ _ hcell, rfl⟩ ?_
  refine wpAny_loadName_local (v := .ref x) rfl rfl hn₁ (by first | rfl | with_unfolding_all rfl | kernel_rfl) ?_
  refine ks_wpAny_isType_cls (X₁ _ _ hC) rfl ⟨rfl, ?_⟩
  refine ks_wpAny_call_super (X₁ _ _ hC) rfl hx₁ rfl (fun c e => by cases e) (looks_mroIn X₁ T.selfC) (fun h₂ hso k₂ => ?_)
  have X₂ : K.In h₂ := X₁.keeps k₂
  have hx₂ := k₂ _ _ hx₁
  have I₂ : InstAt h₂ x (excO C t0) C none := ⟨hx₂, rfl, rfl, trivial⟩
  have hI : W.Looks (model prog w) h₂ (isInstance (.ref x) (.type "ValueError")) true := I₂.type.andThen (looks_subIn X₂ T.veC)
  have hxC : x ≠ C := fun z => by
    have e := X₂ _ _ hC
    rw [← z, hx₂] at e
    cases e
  have hsup : alongIn K "__init__" (((Value.ref C :: bm).dropWhile (· != .ref C)).drop 1) = some (some (.builtin "ValueError.__init__")) := by
    have e := T.sup
    unfold ks_superIn at e
    rw [hcl] at e
    exact e
  refine kxs_getMethod kxs_ValueError hso (looks_opaque X₂ T.opq) (l₀ := .ref C :: bm) (fun A Q E s k q => wpAny_bind ((looks_clsIn X₂ hcl) A _ E s k (wpAny_pure q))) rfl X₂ hsup hI hxC rfl ?_
  have k₃ : ∀ b o, h₂.get? b = some o → (h₂.push (kxs_mw "ValueError.__init__" x)).get? b = some o := fun b o e => Heap.get?_push_of_some _ e
  have hu : (h₂.push (kxs_mw "ValueError.__init__" x)).get? h₂.objs.size = some (kxs_mw "ValueError.__init__" x) := Heap.get?_push_at rfl rfl
  refine kxs_callWith (i := "ValueError.__init__") (x := x) rfl ?_
  refine evalArgs_plain (Calls.spliced_cons ?_)
  show wpAny _ _ (eval (.Constant (.str msg) n q4) _) _ _ _
  refine wpAny_Constant_str ?_
  show wpAny _ _ (spliced []) _ _ _
  refine Calls.spliced_nil ⟨hu, ?_⟩
  refine call_bw (k₃ _ _ (X₂ _ _ hC)) (k₃ _ _ hx₂) hu (by rw [sizeLine_eq]; exact (by decide : 1 ≤ 16777216)) fun h₄ t1 k₄ hx₄ => ?_
  have hLx : s.heap.objs.size ≠ x := Nat.ne_of_gt (Heap.lt_size hx)
  have hn₄ : h₄.Ns s.heap.objs.size (fun y => ([(("self" : Str), Value.ref x), ("at", v)] : List (Str × Value)).reverse.lookup y) := ((hn₁.keeps k₂).keeps k₃).at fun o q => k₄ _ o hLx q
  have kk : ∀ b o, b ≠ x → s.heap.get? b = some o → h₄.get? b = some o := fun b o hb e => k₄ b o hb (k₃ b o (k₂ b o (k b o e)))
  have X₄ : K.In h₄ := fun b o e => k₄ b o (fun z => by rw [z, hnx] at e; cases e) (k₃ b o (X₂ b o e))
  refine PySem.wpAt_of_wpAny (wpAny_execs_cons (plainObj_wpAny_Assign_Attribute ?_))
  refine wpAny_Name (wpAny_loadName_local (v := v) rfl rfl hn₄ (by first | rfl | with_unfolding_all rfl | kernel_rfl) ?_) (by decide)
  refine wpAny_Name (wpAny_loadName_local (v := .ref x) rfl rfl hn₄ (by first | rfl | with_unfolding_all rfl | kernel_rfl) ?_) (by decide)
  refine set_plain X₄ (ox := excO C t1) (od := none) ⟨hx₄, rfl, rfl, trivial⟩ T.sa ?_
  refine exc_osa X₄ hx₄ hcl (show refsVE (.ref C :: bm) = true from hbm) rfl T.noN (fun h₅ tk₅ dx k₅ dn dne hx₅ hn₅ => ?_)
  show wpAny _ _ (execs _ _) _ _ _
  refine wpAny_execs_nil (hq h₅ tk₅ dx t1 ⟨fun b o hb e => k₅ b o hb (kk b o hb e), hx₅, Nat.le_of_lt (Nat.lt_of_lt_of_le hn₄.lt dn), dne, hn₅⟩)
theorem bad_made (T : Txt prog K mg nm C fI) {v : Value} (X : K.In s.heap) (hlim : s.heap.NoLimit) (hG : s.heap.Ns mainGlobals mg) (hB : s.heap.Ns builtinsNs mb) (hmb : mb "super" = some (.type "super")) (hroom : A.depth + 1 < recursionLimit)
    (hq : ∀ h' tk e d, OwnMade s.heap h' e C d v → R (.ok (.ret (.ref e))) { s with heap := h', toks := tk }) :
    codeAny (model prog w) A (.call (.ref C) ⟨[v], []⟩) R s := by
  obtain ⟨nmC, q, N, bs, bm, sn, sub, ab, col, dd, k0, k1, k2, k3, k5, hC, hbm⟩ := T.cls
  obtain ⟨hp, g, dr, tk, os⟩ := s
  have k : ∀ b o, hp.get? b = some o → ((hp.push (kdv_tup [v])).push (excO C hp.objs.size)).get? b = some o := fun b o e => Heap.get?_push_of_some _ (Heap.get?_push_of_some _ e)
  have hget : ((hp.push (kdv_tup [v])).push (excO C hp.objs.size)).get? (hp.objs.size + 1) = some (excO C hp.objs.size) := by heap_get
  have hnx : K.lookup (hp.objs.size + 1) = none := by
    cases e : K.lookup (hp.objs.size + 1) with
    | none => rfl
    | some o =>
      have z : hp.get? (hp.objs.size + 1) = some o := X _ _ e
      exact absurd (Nat.lt_of_succ_lt (Heap.lt_size z)) (Nat.lt_irrefl _)
  refine call_own F.excBase_ValueError (fun X => refsVE_contains X bm hbm) (X _ _ hC) (looks_findIn X T.iC) (fun self => bind_fn X self T.tC) (by rw [sizeLine_eq]; exact (by decide : 1 ≤ 16777216)) ?_
  refine bad_init (s := ⟨(hp.push (kdv_tup [v])).push (excO C hp.objs.size), g, dr, tk, os⟩) T (X.keeps k) (hlim.keeps k) (hG.keeps k) (hB.keeps k) hmb hget hnx ?_ fun h' tk' dx t1 ⟨k', hx, dn, dne, hns⟩ => ?_
  · show A.depth + 1 < recursionLimit
    exact hroom
  · have old : ∀ b o, hp.get? b = some o → h'.get? b = some o := fun b o e => k' b o (Nat.ne_of_lt (Nat.lt_succ_of_lt (Heap.lt_size e))) (k b o e)
    have z : hp.objs.size + 1 + 1 ≤ dx := by
      first
        | (simpa only [Heap.size_push] using dn)
        | exact dn
        | (have q := dn; rw [Heap.size_push, Heap.size_push] at q; exact q)
    exact ⟨rfl, hq h' tk' (hp.objs.size + 1) dx ⟨old, Nat.le_succ _, ⟨_, _, hx, rfl, rfl, rfl, rfl⟩, Nat.le_trans (Nat.le_trans (Nat.le_succ _) (Nat.le_succ _)) z, dne, hns⟩⟩
end
theorem relO_at {v : V} {v' : Value} (r : RelV v v') (f : Str) : RelO (List.lookup f [(("at" : Str), v)]) (if f = "at" then some v' else none) := by
  by_cases hw : f = "at"
  · subst hw
    rw [if_pos rfl]
    have q : List.lookup ("at" : Str) [(("at" : Str), v)] = some v := by simp [List.lookup]
    rw [q]
    exact r
  · rw [if_neg hw]
    have qw : (f == ("at" : Str)) = false := by simpa using hw
    have q2 : List.lookup f [(("at" : Str), v)] = none := by simp [List.lookup, qw]
    rw [q2]
    trivial
section
variable {X : Cx} {C fI : Addr} {x : Str}
/-- C(e) -/
def tMk (C : Addr) (ta : TA) : L2.St → Hp → XK → Prop := fun σ H Q => ta σ H fun vs H1 => ∃ v, vs = [v] ∧ ∀ d, H1 d = none → Q (.ref C) (some d) (upd H1 d (.xd [(("at" : Str), v)]))
theorem pmk_bad {a : Expr} {ta : TA} {p pos : Pos} {k : Nat} (T : Txt X.prog X.K X.mg x C fI) (hr : Room k X.A) (ha : PA X [a] ta) (hg : Gl X x) (hx : (x == ("__debug__" : Str)) = false)
    (he : starEach (a :: []) X.env = (false, eval a X.env) :: starEach [] X.env := by rfl) (hpl : (backTo pos (starEach [] X.env)).any (·.1) = false := by rfl) :
    PMk X (.Call (.Name x p) [a] [] pos) (tMk C ta) := by
  intro pins s σ H Q I h
  refine wpAny_Call_Name_kw (ld_glob I hg T.gC ?_ hx)
  refine PySem.W.callWith_K (h₀ := X.base) I.ok.mod.kin T.kC (thn (ha.run pos pins s σ H _ I h) fun us s1 hh => ?_) he hpl
  obtain ⟨vs, H1, I1, r1, v, ev, q1⟩ := hh
  subst ev
  refine ⟨I1.kIn, ?_⟩
  cases r1 with
  | cons rv rn =>
    rename_i v' us'
    cases rn
    show wpAny _ _ (call (.ref C) [v']) _ _ _
    have hlim := I1.nolimit
    obtain ⟨mb, hb1, hb2⟩ := I1.mod.blt
    have hG := I1.mod.glob.keeps I1.bk
    have hB := hb1.keeps I1.bk
    have hsup : mb "super" = some (.type "super") := (hb2 _ (by decide)).trans (by first | rfl | kernel_rfl)
    obtain ⟨hp, g, dr, tk, os⟩ := s1
    refine wpAny_call (bad_made T I1.kIn hlim hG hB hsup (by have := hr.dp; omega) fun h' tk' e d M => ?_)
    show MkP X pins σ Q (.ref e) ⟨h', g, dr, tk', os⟩
    obtain ⟨oe, fv, hoe, hc, hd, hdat, h1⟩ := M.obj
    have hns := M.ns
    obtain ⟨G', g1, g2⟩ := restrict h' fun b => decide (b ≠ e)
    have gk : ∀ b, b ≠ e → G'.get? b = h'.get? b := fun b hb => g1 b (decide_eq_true hb)
    have ge : G'.get? e = none := g2 e (by simp)
    have old : ∀ b o, hp.get? b = some o → G'.get? b = some o := fun b o q => (gk b (Nat.ne_of_lt (Nat.lt_of_lt_of_le (Heap.lt_size q) M.new))).trans (M.keep b o q)
    have ob : ObjOk X.prog X.w (upd H1 d (.xd [(("at" : Str), v)])) G' d (.xd [(("at" : Str), v)]) :=
      ⟨_, hns.at (fun o q => (gk d M.dne).trans q), fun f => relO_at rv f⟩
    have J : Inv X pins σ (upd H1 d (.xd [(("at" : Str), v)])) ⟨G', g, dr, tk', os⟩ := I1.laid (t' := tk') old M.dbig ob
    refine ⟨e, oe, fv, ⟨G', g, dr, tk', os⟩, _, .ref C, some d, rfl, J, fun b o q => ?_, ge, hoe, ⟨hc, hd⟩, hdat, h1, ?_, rfl, I1.bare, raises_own T.exC T.tyC, q1 d (I1.hok.fresh M.dbig)⟩
    · by_cases hb : b = e
      · have q' : G'.get? b = some o := q
        rw [hb, ge] at q'; cases q'
      · exact (gk b hb).symm.trans q
    · rw [upd_ne (Ne.symm M.dne)]
      exact I1.hok.fresh M.new
end
end Bad
end PyD

/-! PyX2: a caught exception is asked for its class, its field is read: the suite of the handler. -/
namespace PyD
namespace Bad
open PySem PySem.Spec PyProof.Rows L2
/-- what isinstance asks of the class at C -/
structure IsC (K : PySem.W.Frag) (C : Addr) : Prop where
  hcl : (PySem.W.clsIn K C).isSome = true
  hga : PySem.W.findIn K (.ref C) "__getattribute__" = some (some (.builtin "BaseException.__getattribute__"))
  hgt : PySem.W.findIn K (.ref C) "__getattr__" = some none
  hsub : PySem.W.subIn K (.ref C) (.type "BaseException") = some true
  hd : PySem.W.hasDictIn K C = true
  ha : PySem.W.findIn K (.ref C) "__class__" = some (some (.builtin "object.__class__"))
  hn : PySem.W.specialIn K (.builtin "object.__class__") "__get__" = some (some (.builtin "getset_descriptor.__get__"))
  htk : PySem.W.takesIn K (.builtin "object.__class__") = some true
  hm : PySem.W.mroIn K C (.type "object") = some true
/-- isinstance(e, c), e the exception that the suite holds -/
def rIsX (K : PySem.W.Frag) (D a : Addr) (cls : Value) (d : Option Addr) : List V → Hp → VK → Prop := fun xs H Q => cls = .ref D ∧ ∃ (dd : Addr) (fs : List (Str × V)) (c : V) (cv : Value) (b : Bool), d = some dd ∧ H dd = some (.xd fs) ∧ xs = [.ref a, c] ∧ (∀ u, RelV c u → u = cv) ∧ PySem.W.kitOne K (.ref D) cv = some b ∧ Q (.bl b) H
theorem call_isX {X : Cx} {a D : Addr} {oe : Obj} {cls : Value} {d : Option Addr} {pn : List (Addr × Obj)} (C : IsC X.K D) (hz : Zc cls d oe) (hf : ∃ vs, oe.data = .fields vs) : CallR (X.suite a ((a, oe) :: pn)) (.builtin "isinstance") (rIsX X.K D a cls d) := by
  intro pins s σ H xs us Q I r h
  obtain ⟨ec, dd, fs, c, cv, b, ed, hdd, rfl, hcv, e, q⟩ := h
  subst ec; subst ed
  cases r with
  | cons rx rr =>
    cases rr with
    | cons rt rr =>
      cases rr
      cases rx
      have ec := hcv _ rt
      subst ec
      obtain ⟨hget, _⟩ := I.pin (a, oe) (List.mem_append.mpr (.inl List.mem_cons_self))
      obtain ⟨vs, hv⟩ := hf
      have hx : ObjOk X.prog X.w H s.heap dd (.xd fs) := I.hok dd _ hdd
      obtain ⟨mA, hns, hr⟩ := hx
      obtain ⟨od, ho, hl⟩ := lookIn_ns hns
      have J : PySem.W.InstAt s.heap a oe D (some od) := ⟨hget, hz.1, by unfold PySem.W.notCls; rw [hv] <;> rfl, by rw [hz.2]; exact ho⟩
      exact PySem.W.kia_one (PySem.W.kitx_exc C.hcl C.hga C.hgt C.hsub C.ha C.hn C.htk C.hm) I.kIn J e (fun z => nomatch z) fun tk => ⟨.bl b, H, I.kept (t' := tk) fun _ _ z => z, rfl, q⟩
/-- the tests of the handler: not an x1, or an x2, or an x3 -/
def hTest (x1 x2 x3 : Str) (p1 p2 p3 p4 p5 q1 q2 q3 q4 r1 r2 r3 r4 t : Pos) : Expr :=
  .BoolOp .Or [.UnaryOp .Not (.Call (.Name "isinstance" p1) [.Name "e" p2, .Name x1 p3] [] p4) p5, .Call (.Name "isinstance" q1) [.Name "e" q2, .Name x2 q3] [] q4, .Call (.Name "isinstance" r1) [.Name "e" r2, .Name x3 r3] [] r4] t
/-- what the text says of the classes that the handler names -/
structure Cls (K : PySem.W.Frag) (mg : Str → Option Value) (x1 x2 x3 : Str) (C : Addr) : Prop where
  is : IsC K C
  noN : PySem.W.findIn K (.ref C) "at" = some none
  g1 : mg x1 = some (.ref C)
  g2 : ∃ R, mg x2 = some (.ref R) ∧ PySem.W.kitOne K (.ref C) (.ref R) = some false
  g3 : ∃ R, mg x3 = some (.ref R) ∧ PySem.W.kitOne K (.ref C) (.ref R) = some false
theorem kit_self {K : PySem.W.Frag} {C : Addr} : PySem.W.kitOne K (.ref C) (.ref C) = some true := by
  unfold PySem.W.kitOne
  rw [if_pos (by simp)]
section
variable {X : Cx} {a C : Addr} {oe : Obj} {cls : Value} {d : Option Addr} {pn : List (Addr × Obj)} {x1 x2 x3 : Str} {i : Nat}
/-- one test -/
theorem pt_is {x : Str} {R : Addr} {p1 p2 p3 p4 : Pos} (T : IsC X.K C) (hz : Zc cls d oe) (hf : ∃ vs, oe.data = .fields vs) (hN : X.N[i]? = some ("e" : Str)) (hv : Vis X.env.scope "e") (hgi : Gl X "isinstance") (hmi : X.mg "isinstance" = none) (hg : Gl X x) (hm : X.mg x = some (.ref R)) (hd : (x == ("__debug__" : Str)) = false) :
    PT (X.suite a ((a, oe) :: pn)) (.Call (.Name "isinstance" p1) [.Name "e" p2, .Name x p3] [] p4) (tB (tCB (rIsX X.K C a cls d) (tCons (tVar i) (tCons (tC (.ref R)) tNil)))) :=
  pt_val (pe_callB (call_isX T hz hf) hgi hmi (by first | rfl | kernel_rfl) (pa_cons (pe_var (X := X.suite a ((a, oe) :: pn)) hN hv (by decide) (by decide)) (pa_cons (pe_glob (X := X.suite a ((a, oe) :: pn)) hg hm rfl hd) pa_nil)))
/-- the suite: an exception of C goes on to the last row -/
def tSu (C : Addr) (i : Nat) (t2 : Str) : Addr → Value → Option Addr → TS := fun a cls d D σ H => cls = .ref C ∧ σ[i]? = some (some (.ref a)) ∧ ∃ (dd : Addr) (v : V), d = some dd ∧ H dd = some (.xd [(("at" : Str), v)]) ∧ ∀ p, H p = none → D.rt (.ref p) (upd H p (.tup [.str t2, v]))
theorem pss_suite {o t2 : Str} {k1 k2 k3 k4 k5 : Nat} {p1 p2 p3 p4 p5 q1 q2 q3 q4 r1 r2 r3 r4 t s1 s2 s3 s4 s5 s6 s7 s8 s9 s10 : Pos} (T : Cls X.K X.mg x1 x2 x3 C) (hz : Zc cls d oe) (hf : ∃ vs, oe.data = .fields vs) (hN : X.N[i]? = some ("e" : Str)) (hv : Vis X.env.scope "e")
    (hgi : Gl X "isinstance") (hmi : X.mg "isinstance" = none) (h1 : Gl X x1) (h2 : Gl X x2) (h3 : Gl X x3) (d1 : (x1 == ("__debug__" : Str)) = false) (d2 : (x2 == ("__debug__" : Str)) = false) (d3 : (x3 == ("__debug__" : Str)) = false) :
    PSs (X.suite a ((a, oe) :: pn)) [.If (hTest x1 x2 x3 p1 p2 p3 p4 p5 q1 q2 q3 q4 r1 r2 r3 r4 t) [.Return (some (.Tuple [.Constant (.str o) k1 s1, .Constant (.int 0) k2 s2] k3 s3)) s4] [] s5, .Return (some (.Tuple [.Constant (.str t2) k4 s6, .Attribute (.Name "e" s7) "at" s8] k5 s9)) s10] (tSu C i t2 a cls d) := by
  obtain ⟨R2, m2, b2⟩ := T.g2
  obtain ⟨R3, m3, b3⟩ := T.g3
  have XF : XfC X.K C := ⟨T.is.hga, T.is.hgt, T.is.hsub, T.is.hd⟩
  refine (pss_cons (ps_if (pw_or (pt_not (pt_is (p1 := p1) (p2 := p2) (p3 := p3) (p4 := p4) T.is hz hf hN hv hgi hmi h1 T.g1 d1)) (pw_or (pt_is (p1 := q1) (p2 := q2) (p3 := q3) (p4 := q4) T.is hz hf hN hv hgi hmi h2 m2 d2) (pw_or1 (pt_is (p1 := r1) (p2 := r2) (p3 := r3) (p4 := r4) T.is hz hf hN hv hgi hmi h3 m3 d3)))).pt
    (pss_one (ps_ret (pe_tup (pa_cons pe_str (pa_cons pe_int pa_nil))))) pss_nil)
    (pss_one (ps_ret (pe_tup (pa_cons pe_str (pa_cons (pe_xf (a := a) (C := C) (n := "at") XF T.noN hz hf (pe_var (X := X.suite a ((a, oe) :: pn)) hN hv (by decide) (by decide))) pa_nil)))))).imp fun D σ H ⟨e1, e2, dd, v, e3, e4, q⟩ => ?_
  subst e1; subst e3
  refine ⟨_, e2, rfl, dd, _, .ref C, .ref C, true, rfl, e4, rfl, fun u r => r, kit_self, true, rfl, ?_⟩
  show if (!true) = true then _ else _
  rw [if_neg (by decide)]
  refine ⟨_, e2, rfl, dd, _, .ref R2, .ref R2, false, rfl, e4, rfl, fun u r => r, b2, false, rfl, ?_⟩
  show if false = true then _ else _
  rw [if_neg Bool.false_ne_true]
  refine ⟨_, e2, rfl, dd, _, .ref R3, .ref R3, false, rfl, e4, rfl, fun u r => r, b3, false, rfl, ?_⟩
  show if false = true then _ else _
  rw [if_neg Bool.false_ne_true]
  refine ⟨_, e2, rfl, rfl, dd, _, v, rfl, e4, by simp [List.lookup], by rw [sizeLine_eq]; exact (by decide : 2 ≤ 16777216), fun p hp => q p hp⟩
end
end Bad
end PyD

/-! PyD9: the look is right: expressions. -/
namespace PyD
open PySem PySem.Spec PyProof.Rows L2
theorem evs_len (C : Nat → Fun) : ∀ (es : Exs) (σ : Sl) (h : AH) (ds : List D) (h' : AH), evs C es σ h = some (ds, h') → ds.length = lenE es
  | .nil, σ, h, ds, h', e => by
    simp only [evs, Option.some.injEq, Prod.mk.injEq] at e
    obtain ⟨rfl, rfl⟩ := e; rfl
  | .cons x xs, σ, h, ds, h', e => by
    simp only [evs] at e
    cases ea : ev C x σ h with
    | none => simp [ea] at e
    | some p =>
      obtain ⟨d, h1⟩ := p
      cases eb : evs C xs σ h1 with
      | none => simp [ea, eb] at e
      | some p =>
        obtain ⟨r, h2⟩ := p
        simp [ea, eb] at e
        obtain ⟨rfl, rfl⟩ := e
        rw [List.length_cons, evs_len C xs _ _ _ _ eb, lenE]
theorem chks_len {ck : Ck} : ∀ {es : Exs} {l : List Expr}, chks ck es l = true → lenE es = l.length ∧ l.all plainE = true
  | .nil, l, h => by
    simp only [chks, List.isEmpty_iff] at h
    subst h; exact ⟨rfl, rfl⟩
  | .cons x xs, l, h => by
    cases l with
    | nil => simp [chks] at h
    | cons e es =>
      simp only [chks, Bool.and_eq_true] at h
      obtain ⟨h1, h2⟩ := chks_len h.2
      exact ⟨by simp [lenE, h1], by simp [h.1.1, h2]⟩
theorem chkK_len {ck : Ck} : ∀ {es : Exs} {l : List Keyword}, chkK ck es l = true → lenE es = l.length
  | .nil, l, h => by
    simp only [chkK, List.isEmpty_iff] at h
    subst h; rfl
  | .cons x xs, l, h => by
    cases l with
    | nil => simp [chkK] at h
    | cons e es =>
      simp only [chkK, Bool.and_eq_true] at h
      simp [lenE, chkK_len h.2]
theorem tDs_nil {K : Kw} (σ : L2.St) (H : Hp) (Q : List V → Hp → Prop) (q : tDs K (fun _ h => some ([], h)) σ H Q) : tNil σ H Q := by
  obtain ⟨ρ, σd, h, ds, h', rs, rh, e, o⟩ := q
  simp only [Option.some.injEq, Prod.mk.injEq] at e
  obtain ⟨rfl, rfl⟩ := e
  exact o [] H ρ (Ext.refl _ _) rh .nil
theorem tDs_cons {K : Kw} {m : Sl → AH → Option (D × AH)} {ms : Sl → AH → Option (List D × AH)} (σ : L2.St) (H : Hp) (Q : List V → Hp → Prop)
    (q : tDs K (fun σ h => (m σ h).bind fun (d, h1) => (ms σ h1).bind fun (ds, h2) => some (d :: ds, h2)) σ H Q) : tCons (tD K m) (tDs K ms) σ H Q := by
  obtain ⟨ρ, σd, h, ds, h', rs, rh, e, o⟩ := q
  cases ea : m σd h with
  | none => simp [ea] at e
  | some p =>
    obtain ⟨x, h1⟩ := p
    cases eb : ms σd h1 with
    | none => simp [ea, eb] at e
    | some p =>
      obtain ⟨xs, h2⟩ := p
      simp [ea, eb] at e
      obtain ⟨rfl, rfl⟩ := e
      exact ⟨ρ, σd, h, x, h1, rs, rh, ea, fun v H1 ρ1 e1 r1 q1 => ⟨ρ1, σd, h1, xs, h2, rs.ext e1, r1, eb, fun vs H2 ρ2 e2 r2 q2 => o _ H2 ρ2 (e1.trans e2) r2 (.cons (DV.ext e2 x q1) q2)⟩⟩
theorem pk_imp {X : Cx} {kws : List Keyword} {t t' : TA} (h : PK X kws t) (i : ∀ σ H Q, t' σ H Q → t σ H Q) : PK X kws t' := ⟨fun pos pins s σ H Q I q => h.run pos pins s σ H Q I (i _ _ _ q)⟩
theorem okN {x : Str} (h : okName x = true) : (x == ("__debug__" : Str)) = false ∧ (x == ("__classdict__" : Str)) = false := by
  unfold okName at h
  simp only [Bool.and_eq_true, Bool.not_eq_true'] at h
  exact h.1
theorem okN3 {x : Str} (h : okName x = true) : (x == ("" : Str)) = false := by
  unfold okName at h
  simp only [Bool.and_eq_true, Bool.not_eq_true'] at h
  exact h.2

section
variable {C : Nat → Fun}
mutual
theorem sT {ck : Ck} {X : Cx} (ok : OkE ck C X) : ∀ (t : Tg) (e : Expr), chkT ck t e = true → RG X e t
  | .v i, e, h => by
    simp only [chkT] at h
    split at h
    case h_2 => cases h
    rename_i x p
    simp only [Bool.and_eq_true, decide_eq_true_eq] at h
    obtain ⟨h1, h2⟩ := ok.loc _ h.2
    exact rg_v (by rw [ok.hN]; exact ok.nd) (by rw [ok.hN]; exact h.1) h1 h2
  | .t ts, e, h => by
    simp only [chkT] at h
    split at h
    case h_2 => cases h
    rename_i es k p
    obtain ⟨h1, h2, h3⟩ := sTs ok ts es h
    exact rg_t ok.calm h2 h3 h1
theorem sTs {ck : Ck} {X : Cx} (ok : OkE ck C X) : ∀ (ts : Tgs) (es : List Expr), chkTs ck ts es = true → RGs X es ts ∧ es.all plainE = true ∧ lenT ts = es.length
  | .nil, es, h => by
    simp only [chkTs, List.isEmpty_iff] at h
    subst h
    exact ⟨rgs_nil, rfl, rfl⟩
  | .cons t ts, es, h => by
    cases es with
    | nil => simp [chkTs] at h
    | cons e es =>
      simp only [chkTs, Bool.and_eq_true] at h
      obtain ⟨h1, h2, h3⟩ := sTs ok ts es h.2
      exact ⟨rgs_cons h.1.1 (sT ok t e h.1.2) h1, by simp [h.1.1, h2], by simp [lenT, h3]⟩
end
theorem re_comp {ck : Ck} {X : Cx} (ok : OkE ck C X) {elt tg iter : Expr} {ifs : List Expr} {sc : Scope} {pos : Pos} {own : List Nat} {mi : Sl → AH → Option (List D × Option Nat × AH)} {t : Tg} {mc : Sl → AH → Option (Bool × AH)} {me : Sl → AH → Option (D × AH)}
    (hi : RI X tg iter mi) (hb : blkC ck.N ck.sc sc (own.map fun i => (ck.N.getD i Str.empty, i)) = true) (hs : isSet iter = false) (hp : plainE iter = true) (hv : (slots t).all (fun i => decide (i ∈ own)) = true)
    (hg : ∀ X', OkE (ck.inn sc) C X' → X'.kw = X.kw → RG X' tg t) (hc : ∀ X', OkE (ck.inn sc) C X' → X'.kw = X.kw → PTs X' ifs (tDT X'.kw mc)) (he : ∀ X', OkE (ck.inn sc) C X' → X'.kw = X.kw → RE X' elt me) :
    RE X (.ListComp elt [⟨tg, iter, ifs, 0⟩] sc pos) (fun σ h => (mi σ h).bind fun (xs, n, h1) => if xs.length ≤ lim then (compL (wipe σ own) t n xs.length mc me xs 0 h1).bind fun (ds, h2) => some (.lst ds, h2) else none) := by
  have bo := ok.blkOk hb
  have e : (own.map fun i => (ck.N.getD i Str.empty, i)).map (·.2) = own := by
    rw [List.map_map]
    show own.map (fun i => i) = own
    simp
  have hN : X.N.Nodup := by rw [ok.hN]; exact ok.nd
  refine (pe_lc (wi := tI X.kw mi) (g := gD X.kw t) (tt := tDT X.kw mc) (te := tD X.kw me) ok.calm hN hi bo (fun s H Ca cl fp => hg _ (ok.blk sc bo.kind s H Ca cl fp) rfl) (fun s H Ca cl fp => hc _ (ok.blk sc bo.kind s H Ca cl fp) rfl) (fun s H Ca cl fp => he _ (ok.blk sc bo.kind s H Ca cl fp) rfl)
    (fun x => folded_no hp (by cases iter <;> first | rfl | simp [isSet] at hs) _ _)).imp fun σ H Q q => ?_
  rw [e]
  exact tLc_imp (fun i hi => by simpa using List.all_eq_true.mp hv i hi) σ H Q q
theorem base_attr {e : Expr} (h : isBase e = true) (env : Env) (nm : Str) : attributeBase e nm env (eval e env) = eval e env := by
  cases e <;> first | rfl | simp [isBase] at h
theorem fx_truth {ck : Ck} {f : Fx} {e : Expr} {env : Env} (h : chkF ck f e = true) : ∀ whole, isTrue e env whole = (do let v ← whole; standAt e.pos; holding [v] (truthy v)) := by
  cases f <;> first | (simp [chkF] at h; done) | (simp only [chkF] at h; split at h <;> first | (intro w; rfl) | cases h)
theorem mk2 {X : Cx} {a : Expr} {ma : Sl → AH → Option (D × AH)} {P : Prop} (r : RE X a ma) (he : ∀ whole, isTrue a X.env whole = (do let v ← whole; standAt a.pos; holding [v] (truthy v))) : RE X a ma ∧ (P → RT X a (tstM ma)) := ⟨r, fun _ => rt_val r he⟩
mutual
theorem sE {ck : Ck} {X : Cx} (ok : OkE ck C X) : ∀ (x : Ex) (e : Expr), chk ck x e = true → RE X e (ev C x) ∧ (tstOk x = true → RT X e (tstM (ev C x)))
  | .var i, e, h => by
    simp only [chk] at h
    split at h
    case h_2 => cases h
    rename_i x p
    simp only [Bool.and_eq_true, decide_eq_true_eq] at h
    obtain ⟨h1, h2⟩ := okN h.2
    exact mk2 (re_var (by rw [ok.hN]; exact h.1.1) (ok.vis _ h.1.2) h1 h2) (by intro w; rfl)
  | .non, e, h => by
    simp only [chk] at h
    split at h
    case h_2 => cases h
    exact mk2 (re_c pe_non fun _ _ => DV.non') (by intro w; rfl)
  | .bl b, e, h => by
    simp only [chk] at h
    split at h
    case h_2 => cases h
    obtain rfl := eq_of_beq h
    exact mk2 (re_c pe_bl fun _ _ => DV.bl' _) (by intro w; rfl)
  | .int i, e, h => by
    simp only [chk] at h
    split at h
    case h_2 => cases h
    obtain rfl := of_decide_eq_true h
    exact mk2 (re_c pe_int fun _ _ => DV.int' _) (by intro w; rfl)
  | .str s, e, h => by
    simp only [chk] at h
    split at h
    case h_2 => cases h
    obtain rfl := of_decide_eq_true h
    exact mk2 (re_c pe_str fun _ _ => DV.str' _) (by intro w; rfl)
  | .glob x d, e, h => by
    simp only [chk] at h
    split at h
    case h_2 => cases h
    rename_i y p
    simp only [Bool.and_eq_true, decide_eq_true_eq, List.any_eq_true] at h
    obtain ⟨⟨⟨h1, h2⟩, h3⟩, ⟨⟨y', d'⟩, hm, h4, h5⟩⟩ := h
    have hd := sameD_eq h5
    simp only at h4 hd
    subst h4; subst hd
    obtain ⟨u, v, hu, hr, hq⟩ := ok.cst _ _ hm
    exact mk2 (re_c (pe_glob (ok.gl _ h2) hu hr (okN h3).1) hq) (by intro w; rfl)
  | .tup es, e, h => by
    simp only [chk] at h
    split at h
    case h_2 => cases h
    simp only [Bool.and_eq_true, decide_eq_true_eq] at h
    have hl := (chks_len h.2).1
    exact mk2 (re_tup (sEs ok es _ h.2) h.1 fun σ hh ds h' e => by rw [evs_len C _ _ _ _ _ e, hl]) (by intro w; rfl)
  | .fv f, e, h => by
    simp only [chk] at h
    exact mk2 (re_fv (sF ok f e h)) (fx_truth h)
  | .fm f, e, h => by
    simp only [chk] at h
    exact mk2 (re_fm (sF ok f e h)) (fx_truth h)
  | .bin op a b, e, h => by
    simp only [chk] at h
    split at h
    case h_2 => cases h
    simp only [Bool.and_eq_true, decide_eq_true_eq] at h
    obtain ⟨⟨rfl, h1⟩, h2⟩ := h
    exact mk2 (re_bin (sE ok a _ h1).1 (sE ok b _ h2).1) (by intro w; rfl)
  | .neg a, e, h => by
    simp only [chk] at h
    split at h
    case h_2 => cases h
    exact mk2 (re_neg (sE ok a _ h).1) (by intro w; rfl)
  | .cmp op a b, e, h => by
    simp only [chk] at h
    split at h
    case h_2 => cases h
    simp only [Bool.and_eq_true, decide_eq_true_eq, Bool.not_eq_true'] at h
    obtain ⟨⟨⟨rfl, h1⟩, h2⟩, h3⟩ := h
    exact ⟨re_cmp ok.room (sE ok a _ h1).1 (sE ok b _ h2).1 h3, fun _ => rt_cmp ok.room (sE ok a _ h1).1 (sE ok b _ h2).1 h3⟩
  | .chain op1 op2 a b c, e, h => by
    simp only [chk] at h
    split at h
    case h_2 => cases h
    simp only [Bool.and_eq_true, decide_eq_true_eq, Bool.not_eq_true'] at h
    obtain ⟨⟨⟨⟨⟨rfl, rfl⟩, h1⟩, h2⟩, h3⟩, h4⟩ := h
    exact ⟨re_chain ok.room (sE ok a _ h1).1 (sE ok b _ h2).1 (sE ok c _ h3).1 h4, fun _ => rt_chain ok.room (sE ok a _ h1).1 (sE ok b _ h2).1 (sE ok c _ h3).1 h4⟩
  | .bop i es, e, h => by
    simp only [chk] at h
    split at h
    case h_2 => cases h
    rename_i op es' pos
    simp only [Bool.and_eq_true, decide_eq_true_eq] at h
    obtain ⟨rfl, h1⟩ := h
    have b := sB ok i es es' pos h1
    exact ⟨b.1, fun ht => by simp only [tstOk] at ht; exact (b.2 ht).pt⟩
  | .not a, e, h => by
    simp only [chk] at h
    split at h
    case h_2 => cases h
    exact ⟨re_not (sE ok a _ h).1, fun ht => by simp only [tstOk] at ht; exact rt_not ((sE ok a _ h).2 ht)⟩
  | .ite c a b, e, h => by
    simp only [chk] at h
    split at h
    case h_2 => cases h
    simp only [Bool.and_eq_true] at h
    exact ⟨re_ite ((sE ok c _ h.1.1.2).2 h.1.1.1) (sE ok a _ h.1.2).1 (sE ok b _ h.2).1, fun ht => by simp [tstOk] at ht⟩
  | .idx a b, e, h => by
    simp only [chk] at h
    split at h
    case h_2 => cases h
    simp only [Bool.and_eq_true] at h
    exact mk2 (re_idx h.1.1 (sE ok a _ h.1.2).1 (sE ok b _ h.2).1) (by intro w; rfl)
  | .slc a lo hi, e, h => by
    simp only [chk] at h
    split at h
    case h_2 => cases h
    simp only [Bool.and_eq_true] at h
    exact mk2 (re_slc (sE ok a _ h.1.1).1 (sO ok lo _ h.1.2) (sO ok hi _ h.2)) (by intro w; rfl)
  | .call f args, e, h => by
    simp only [chk] at h
    split at h
    case h_2 => cases h
    rename_i x p es pos
    simp only [Bool.and_eq_true, decide_eq_true_eq] at h
    obtain ⟨⟨⟨h1, h2⟩, h3⟩, h4⟩ := h
    obtain ⟨k, hr, hf⟩ := ok.fns
    obtain ⟨fa, fd, ps, F, hm, hk, hb, _, _⟩ := hf f x es.length h1 (okN3 h3)
    obtain ⟨hl, hp⟩ := chks_len h4
    cases es with
    | nil =>
      cases args with
      | nil => exact mk2 (re_call0 (f := f) F hr (ok.gl _ h2) hm hk hb (okN h3).1) (by intro w; rfl)
      | cons _ _ => simp [lenE] at hl
    | cons e0 er => exact mk2 (re_call (f := f) F hr (ok.gl _ h2) hm hk hb (sEs ok args _ h4) hp rfl (fun σ hh ds h' e => by rw [evs_len C _ _ _ _ _ e, hl]) (okN h3).1 (by simp)) (by intro w; rfl)
  | .callK f args ks, e, h => by
    simp only [chk] at h
    split at h
    case h_2 => cases h
    rename_i x p es kws pos
    simp only [Bool.and_eq_true, decide_eq_true_eq, Bool.not_eq_true'] at h
    obtain ⟨⟨⟨⟨⟨⟨⟨h1, h2⟩, h3⟩, h0⟩, h4⟩, h5⟩, h6⟩, h7⟩ := h
    obtain ⟨k, hr, hf⟩ := ok.fns
    obtain ⟨fa, fd, ps, F, hm, hk, _, hb, _⟩ := hf f x _ h1 (okN3 h3)
    obtain ⟨hl, hp⟩ := chks_len h4
    exact mk2 (re_callK (f := f) F hr (ok.gl _ h2) hm hk (hb _ _ h7) (sEs ok args _ h4) (sK ok ks _ h5) hp rfl rfl (fun σ hh ds h' e => by rw [evs_len C _ _ _ _ _ e, hl]) (fun σ hh ds h' e => by rw [evs_len C _ _ _ _ _ e, chkK_len h5]) (okN h3).1 (fun z => by simp [z] at h0) h6 rfl) (by intro w; rfl)
  | .callD f args dfl, e, h => by
    simp only [chk] at h
    split at h
    case h_2 => cases h
    rename_i x p es pos
    simp only [Bool.and_eq_true, decide_eq_true_eq, Bool.not_eq_true', List.any_eq_true] at h
    obtain ⟨⟨⟨⟨⟨h1, h2⟩, h3⟩, h0⟩, h4⟩, ⟨⟨f', j', ds'⟩, hmem, ⟨hf', hj'⟩, hds⟩⟩ := h
    obtain rfl := sameDs_eq hds
    simp only at hf' hj'
    subst hf' hj'
    obtain ⟨k, hr, hf⟩ := ok.fns
    obtain ⟨fa, fd, ps, F, hm, hk, _, _, hb⟩ := hf _ x _ h1 (okN3 h3)
    obtain ⟨dvs, dus, b1, b2, b3⟩ := hb _ _ hmem
    obtain ⟨hl, hp⟩ := chks_len h4
    exact mk2 (re_callD (f := 0) F hr (ok.gl _ h2) hm hk b1 b2 b3 (sEs ok args _ h4) hp rfl (fun σ hh ds h' e => by rw [evs_len C _ _ _ _ _ e, hl]) (okN h3).1 (fun z => by simp [z] at h0)) (by intro w; rfl)
  | .blt b args, e, h => by
    simp only [chk] at h
    split at h
    case h_2 => cases h
    rename_i x p es pos
    simp only [Bool.and_eq_true, decide_eq_true_eq, Bool.not_eq_true'] at h
    obtain ⟨⟨⟨rfl, h2⟩, h3⟩, h4⟩ := h
    obtain ⟨hl, hp⟩ := chks_len h4
    cases es with
    | nil => simp at h3
    | cons e0 er =>
      rw [List.all_cons, Bool.and_eq_true] at hp
      exact mk2 (re_blt ok.calm (ok.gl _ h2) (ok.blt _ (by cases b <;> decide)) (sEs ok args _ h4) hp.1 hp.2) (by intro w; rfl)
  | .isi a t, e, h => by
    simp only [chk] at h
    split at h
    case h_2 => cases h
    simp only [Bool.and_eq_true, decide_eq_true_eq] at h
    obtain ⟨⟨⟨⟨⟨rfl, rfl⟩, h1⟩, h2⟩, h3⟩, h4⟩ := h
    exact mk2 (re_isi (p2 := ⟨0, 0, 0, 0⟩) (ok.gl _ h1) (ok.blt _ (by decide)) (ok.gl _ h2) (ok.blt _ (by cases t <;> decide)) (sE ok a _ h4).1 h3) (by intro w; rfl)
  | .comp elt tg it cond own, e, h => by
    simp only [chk] at h
    split at h
    case h_2 => cases h
    rename_i elt' tg' iter' ifs' sc pos
    simp only [Bool.and_eq_true, Bool.not_eq_true'] at h
    obtain ⟨⟨⟨⟨⟨⟨⟨h1, h2⟩, h3⟩, h4⟩, h5⟩, h6⟩, h7⟩, h8⟩ := h
    exact mk2 (re_comp ok (sI ok it tg' iter' h1) h4 h2 h3 h6 (fun X' ok' _ => sT ok' tg tg' h5) (fun X' ok' _ => sC ok' cond ifs' h7) (fun X' ok' _ => (sE ok' elt elt' h8).1)) (by intro w; rfl)
  | .app l x, e, h => by
    simp only [chk] at h
    split at h
    case h_2 => cases h
    simp only [Bool.and_eq_true, decide_eq_true_eq] at h
    obtain ⟨⟨⟨⟨⟨rfl, h1⟩, h2⟩, h3⟩, h4⟩, h5⟩ := h
    exact mk2 (re_app (sE ok l _ h4).1 (sE ok x _ h5).1 h3 (base_attr h1 _ _) h2) (by intro w; rfl)
  | .ext l x, e, h => by
    simp only [chk] at h
    split at h
    case h_2 => cases h
    simp only [Bool.and_eq_true, decide_eq_true_eq] at h
    obtain ⟨⟨⟨⟨⟨rfl, h1⟩, h2⟩, h3⟩, h4⟩, h5⟩ := h
    exact mk2 (re_ext (sE ok l _ h4).1 (sE ok x _ h5).1 h3 (base_attr h1 _ _) h2) (by intro w; rfl)
  | .dct0, e, h => by
    simp only [chk] at h
    split at h
    case h_2 => cases h
    exact mk2 re_dct0 (by intro w; rfl)
  | .dct1 k v, e, h => by
    simp only [chk] at h
    split at h
    case h_2 => cases h
    simp only [Bool.and_eq_true] at h
    exact mk2 (re_dct1 ok.room (sE ok k _ h.1).1 (sE ok v _ h.2).1) (by intro w; rfl)
  | .inD ng a b, e, h => by
    simp only [chk] at h
    split at h
    case h_2 => cases h
    simp only [Bool.and_eq_true, decide_eq_true_eq, Bool.not_eq_true'] at h
    obtain ⟨⟨⟨rfl, h1⟩, h2⟩, h3⟩ := h
    exact ⟨re_inD ok.room (sE ok a _ h1).1 (sE ok b _ h2).1 h3, fun _ => rt_inD ok.room (sE ok a _ h1).1 (sE ok b _ h2).1 h3⟩
  | .idxD a b, e, h => by simp [chk] at h
  | .dctT, e, h => by
    simp only [chk] at h
    split at h
    case h_2 => cases h
    exact mk2 re_dctT (by intro w; rfl)
  | .pop0 l, e, h => by
    simp only [chk] at h
    split at h
    case h_2 => cases h
    simp only [Bool.and_eq_true, decide_eq_true_eq] at h
    obtain ⟨⟨⟨rfl, h1⟩, h2⟩, h3⟩ := h
    exact mk2 (re_pop0 (sE ok l _ h3).1 (base_attr h1 _ _) h2) (by intro w; rfl)
  | .callL i x g args, e, h => by
    simp only [chk] at h
    split at h
    case h_2 => cases h
    rename_i y p es pos
    simp only [Bool.and_eq_true, decide_eq_true_eq, Bool.not_eq_true'] at h
    obtain ⟨⟨⟨⟨⟨⟨h1, h2⟩, h3⟩, h4⟩, h5⟩, h6⟩, h7⟩ := h
    obtain ⟨k, hr, hf⟩ := ok.fns
    obtain ⟨fa, fd, ps, F, hm, hk, hb, _, _⟩ := hf g _ _ h4 (okN3 h6)
    obtain ⟨hl, hp⟩ := chks_len h7
    exact mk2 (re_callL F hr hm (by rw [ok.hN]; exact h1) (ok.vis _ h2) hk hb (sEs ok args _ h7) hp rfl (fun σ hh ds h' e => by rw [evs_len C _ _ _ _ _ e, hl]) (okN h3).1 (okN h3).2 (fun z => by simp [z] at h5)) (by intro w; rfl)
  | .popE l, e, h => by
    simp only [chk] at h
    split at h
    case h_2 => cases h
    simp only [Bool.and_eq_true, decide_eq_true_eq] at h
    obtain ⟨⟨⟨rfl, h1⟩, h2⟩, h3⟩ := h
    exact mk2 (re_popE (sE ok l _ h3).1 (base_attr h1 _ _) h2) (by intro w; rfl)
  | .sidx x s a, e, h => by
    simp only [chk] at h
    split at h
    case h_2 => cases h
    simp only [Bool.and_eq_true, decide_eq_true_eq, List.any_eq_true] at h
    obtain ⟨⟨⟨⟨⟨⟨⟨⟨rfl, h1⟩, h2⟩, h3⟩, ⟨⟨y', d'⟩, hm, h4, h5⟩⟩, h6⟩, h7⟩, h8⟩, h9⟩ := h
    have hd := sameD_eq h5
    simp only at h4 hd
    subst h4; subst hd
    obtain ⟨u, v, hu, hr, hq⟩ := ok.cst _ _ hm
    exact mk2 (re_sidx h6 (re_c (pe_glob (ok.gl _ h2) hu hr (okN h3).1) hq) (sE ok a _ h9).1 h8 h7) (by intro w; rfl)
  | .inT ng a b, e, h => by
    simp only [chk] at h
    split at h
    case h_2 => cases h
    simp only [Bool.and_eq_true, decide_eq_true_eq, Bool.not_eq_true'] at h
    obtain ⟨⟨⟨rfl, h1⟩, h2⟩, h3⟩ := h
    exact ⟨re_inT ok.room (sE ok a _ h1).1 (sE ok b _ h2).1 h3, fun _ => rt_inT ok.room (sE ok a _ h1).1 (sE ok b _ h2).1 h3⟩
theorem sEs {ck : Ck} {X : Cx} (ok : OkE ck C X) : ∀ (xs : Exs) (es : List Expr), chks ck xs es = true → RA X es (evs C xs)
  | .nil, es, h => by
    simp only [chks, List.isEmpty_iff] at h
    subst h
    exact ra_nil
  | .cons x xs, es, h => by
    cases es with
    | nil => simp [chks] at h
    | cons e es =>
      simp only [chks, Bool.and_eq_true] at h
      exact ra_cons h.1.1 (sE ok x e h.1.2).1 (sEs ok xs es h.2)
theorem sK {ck : Ck} {X : Cx} (ok : OkE ck C X) : ∀ (xs : Exs) (ks : List Keyword), chkK ck xs ks = true → PK X ks (tDs X.kw (evs C xs))
  | .nil, ks, h => by
    simp only [chkK, List.isEmpty_iff] at h
    subst h
    exact pk_imp pk_nil tDs_nil
  | .cons x xs, ks, h => by
    cases ks with
    | nil => simp [chkK] at h
    | cons k ks =>
      simp only [chkK, Bool.and_eq_true] at h
      obtain ⟨nm, e, p⟩ := k
      exact pk_imp (pk_cons (sE ok x e h.1).1 (sK ok xs ks h.2)) tDs_cons
theorem sO {ck : Ck} {X : Cx} (ok : OkE ck C X) : ∀ (x : Ox) (o : Option Expr), chkO ck x o = true → RO X o (evO C x)
  | .no, o, h => by
    simp only [chkO, Option.isNone_iff_eq_none] at h
    subst h
    exact ro_none
  | .so x, o, h => by
    cases o with
    | none => simp [chkO] at h
    | some e =>
      simp only [chkO] at h
      exact ro_some (sE ok x e h).1
theorem sC {ck : Ck} {X : Cx} (ok : OkE ck C X) : ∀ (x : Ox) (l : List Expr), chkC ck x l = true → PTs X l (tDT X.kw (tstO C x))
  | .no, l, h => by
    simp only [chkC, List.isEmpty_iff] at h
    subst h
    refine ⟨fun pins s σ H Q I q => pts_nil.run pins s σ H Q I ?_⟩
    obtain ⟨ρ, σd, h, b, h', rs, rh, e, o⟩ := q
    simp only [tstO, Option.some.injEq, Prod.mk.injEq] at e
    obtain ⟨rfl, rfl⟩ := e
    exact o H ρ (Ext.refl _ _) rh
  | .so x, l, h => by
    simp only [chkC] at h
    split at h
    case h_2 => cases h
    simp only [Bool.and_eq_true] at h
    exact pts_one ((sE ok x _ h.2).2 h.1)
theorem sB {ck : Ck} {X : Cx} (ok : OkE ck C X) (i : Bool) : ∀ (xs : Exs) (es : List Expr) (pos : Pos), chks ck xs es = true → RE X (.BoolOp (if i then .And else .Or) es pos) (evB C i xs) ∧ (tstOks xs = true → RW X (.BoolOp (if i then .And else .Or) es pos) (tstM (evB C i xs)))
  | .nil, es, pos, h => ⟨⟨fun pins s σ H Q I q => by
    obtain ⟨ρ, σd, h, b, h', rs, rh, e, o⟩ := q
    simp [evB] at e⟩, fun _ => ⟨fun wh pins s σ H Q I q => by
    obtain ⟨ρ, σd, h, b, h', rs, rh, e, o⟩ := q
    simp [tstM, evB] at e⟩⟩
  | .cons x .nil, es, pos, h => by
    cases es with
    | nil => simp [chks] at h
    | cons e es =>
      simp only [chks, Bool.and_eq_true, List.isEmpty_iff] at h
      obtain ⟨⟨_, h1⟩, rfl⟩ := h
      have hx := sE ok x e h1
      refine ⟨re_one hx.1, fun ht => ?_⟩
      simp only [tstOks, Bool.and_true] at ht
      cases i with
      | true => exact rw_and1 (hx.2 ht)
      | false => exact rw_or1 (hx.2 ht)
  | .cons x (.cons y ys), es, pos, h => by
    cases es with
    | nil => simp [chks] at h
    | cons e es =>
      have h' : chks ck (.cons y ys) es = true := by
        simp only [chks, Bool.and_eq_true] at h
        simp only [chks]
        exact h.2
      have h1 : chk ck x e = true := by
        simp only [chks, Bool.and_eq_true] at h
        exact h.1.2
      have ih := sB ok i (.cons y ys) es pos h'
      have hx := sE ok x e h1
      cases es with
      | nil => simp [chks] at h'
      | cons e2 er =>
        have sp : tstOks (.cons x (.cons y ys)) = true → tstOk x = true ∧ tstOks (.cons y ys) = true := fun ht => by
          simp only [tstOks, Bool.and_eq_true] at ht ⊢
          exact ht
        cases i with
        | true => exact ⟨re_and hx.1 ih.1, fun ht => rw_and (hx.2 (sp ht).1) (ih.2 (sp ht).2)⟩
        | false => exact ⟨re_or hx.1 ih.1, fun ht => rw_or (hx.2 (sp ht).1) (ih.2 (sp ht).2)⟩
theorem sF {ck : Ck} {X : Cx} (ok : OkE ck C X) : ∀ (x : Fx) (e : Expr), chkF ck x e = true → RF X e (evF C x)
  | .disp es, e, h => by
    simp only [chkF] at h
    split at h
    case h_2 => cases h
    simp only [Bool.and_eq_true, decide_eq_true_eq] at h
    have hl := (chks_len h.2).1
    exact rf_disp (sEs ok es _ h.2) h.1 fun σ hh ds h' e => by rw [evs_len C _ _ _ _ _ e, hl]
  | .rep a n, e, h => by
    simp only [chkF] at h
    split at h
    case h_2 => cases h
    simp only [Bool.and_eq_true] at h
    exact rf_rep (sE ok a _ h.1).1 (sE ok n _ h.2).1
  | .cat a b, e, h => by
    simp only [chkF] at h
    split at h
    case h_2 => cases h
    simp only [Bool.and_eq_true] at h
    exact rf_cat (sE ok a _ h.1).1 (sE ok b _ h.2).1
  | .ofSeq x, e, h => by
    simp only [chkF] at h
    split at h
    case h_2 => cases h
    simp only [Bool.and_eq_true, decide_eq_true_eq] at h
    obtain ⟨⟨⟨rfl, h1⟩, h2⟩, h3⟩ := h
    exact rf_ofSeq (ok.gl _ h1) (ok.blt _ (by decide)) (sE ok x _ h3).1 h2
  | .srtS x, e, h => by
    simp only [chkF] at h
    split at h
    case h_2 => cases h
    simp only [Bool.and_eq_true, decide_eq_true_eq] at h
    obtain ⟨⟨⟨⟨⟨rfl, rfl⟩, h1⟩, h2⟩, h3⟩, h4⟩ := h
    exact rf_srtS ok.calm ok.room (ok.gl _ h1) (ok.blt _ (by decide)) (ok.gl _ h2) (ok.blt _ (by decide)) (sE ok x _ h4).1 h3
  | .srtT x, e, h => by
    simp only [chkF] at h
    split at h
    case h_2 => cases h
    simp only [Bool.and_eq_true, decide_eq_true_eq] at h
    obtain ⟨⟨⟨rfl, h1⟩, h2⟩, h3⟩ := h
    exact rf_srtT ok.calm (ok.gl _ h1) (ok.blt _ (by decide)) (sE ok x _ h3).1 h2
  | .srt x, e, h => by
    simp only [chkF] at h
    split at h
    case h_2 => cases h
    simp only [Bool.and_eq_true, decide_eq_true_eq] at h
    obtain ⟨⟨⟨rfl, h1⟩, h2⟩, h3⟩ := h
    exact rf_srt ok.calm (ok.gl _ h1) (ok.blt _ (by decide)) (sE ok x _ h3).1 h2
  | .rng1 b, e, h => by
    simp only [chkF] at h
    split at h
    case h_2 => cases h
    simp only [Bool.and_eq_true, decide_eq_true_eq] at h
    obtain ⟨⟨⟨⟨⟨rfl, rfl⟩, h1⟩, h2⟩, h3⟩, h4⟩ := h
    exact rf_rng1 ok.calm (ok.gl _ h1) (ok.blt _ (by decide)) (ok.gl _ h2) (ok.blt _ (by decide)) (sE ok b _ h4).1 h3
  | .rng2 a b, e, h => by
    simp only [chkF] at h
    split at h
    case h_2 => cases h
    simp only [Bool.and_eq_true, decide_eq_true_eq] at h
    obtain ⟨⟨⟨⟨⟨⟨⟨rfl, rfl⟩, h1⟩, h2⟩, h3⟩, h4⟩, h5⟩, h6⟩ := h
    exact rf_rng2 ok.calm (ok.gl _ h1) (ok.blt _ (by decide)) (ok.gl _ h2) (ok.blt _ (by decide)) (sE ok a _ h5).1 h3 (sE ok b _ h6).1 h4
  | .cut a lo hi, e, h => by
    simp only [chkF] at h
    split at h
    case h_2 => cases h
    simp only [Bool.and_eq_true] at h
    exact rf_cut (sE ok a _ h.1.1).1 (sO ok lo _ h.1.2) (sO ok hi _ h.2)
  | .rev a, e, h => by
    simp only [chkF] at h
    split at h
    case h_2 => cases h
    exact rf_rev (sE ok a _ h).1
theorem sI {ck : Ck} {X : Cx} (ok : OkE ck C X) : ∀ (x : It) (t e : Expr), chkI ck x t e = true → RI X t e (evI C x)
  | .seq x, t, e, h => by
    simp only [chkI] at h
    exact ri_seq (sE ok x e h).1
  | .chars x, t, e, h => by
    simp only [chkI] at h
    exact ri_chars (sE ok x e h).1
  | .rng1 b, t, e, h => by
    simp only [chkI] at h
    split at h
    case h_2 => cases h
    simp only [Bool.and_eq_true, decide_eq_true_eq] at h
    obtain ⟨⟨⟨rfl, h1⟩, h2⟩, h3⟩ := h
    exact ri_rng1 (p1 := ⟨0, 0, 0, 0⟩) (ok.gl _ h1) (ok.blt _ (by decide)) (sE ok b _ h3).1 h2
  | .rng2 a b, t, e, h => by
    simp only [chkI] at h
    split at h
    case h_2 => cases h
    simp only [Bool.and_eq_true, decide_eq_true_eq] at h
    obtain ⟨⟨⟨⟨⟨rfl, h1⟩, h2⟩, h3⟩, h4⟩, h5⟩ := h
    exact ri_rng2 (ok.gl _ h1) (ok.blt _ (by decide)) (sE ok a _ h4).1 h2 (sE ok b _ h5).1 h3
  | .enum a, t, e, h => by
    simp only [chkI] at h
    split at h
    case h_2 => cases h
    simp only [Bool.and_eq_true, decide_eq_true_eq] at h
    obtain ⟨⟨⟨rfl, h1⟩, h2⟩, h3⟩ := h
    exact ri_enum (ok.gl _ h1) (ok.blt _ (by decide)) (sE ok a _ h3).1 h2
  | .zip a b, t, e, h => by
    simp only [chkI] at h
    split at h
    case h_2 => cases h
    simp only [Bool.and_eq_true, decide_eq_true_eq] at h
    obtain ⟨⟨⟨⟨⟨rfl, h1⟩, h2⟩, h3⟩, h4⟩, h5⟩ := h
    exact ri_zip (ok.gl _ h1) (ok.blt _ (by decide)) (sE ok a _ h4).1 h2 (sE ok b _ h5).1 h3
end
end
end PyD

/-! PyX3: raise, the value of a def that may raise, try .. except in the law. -/
namespace PyD
open PySem PySem.Spec PyProof.Rows L2
/-- as spD, for a def that may raise an exception of the class at Cc -/
def spX (Cc : Addr) (K : Kw) (n : Nat) (φ : Fun) : Sp := fun vs H Q E => vs.length = n ∧ ∃ ρ h ds d h', RepH K ρ H h ∧ DVs K ρ H ds vs ∧ φ ds h = some (d, h') ∧
  (match exOf d with
    | some m => ∀ H' ρ', Ext ρ H ρ' H' → RepH K ρ' H' h' → ∀ dx, H' dx = none → E (.ref Cc) (some dx) (L2.upd H' dx (.xd [(("at" : Str), .int m)]))
    | none => Out K ρ H d h' Q)
theorem exOf_eq {d : D} {n : Int} (h : exOf d = some n) : d = .rol [.int n] := by
  unfold exOf at h
  split at h
  · cases h; rfl
  · cases h
theorem callX_ok {K : Kw} {ρ : Rho} {H : Hp} {φ : Fun} {h h1 : AH} {ds : List D} {vs : List V} {n : Int} {P : Hp → Prop} (r0 : RepH K ρ H h) (q0 : DVs K ρ H ds vs) (e : callC φ ds h = some (.rol [.int n], h1)) (o : ∀ H' ρ', Ext ρ H ρ' H' → RepH K ρ' H' h1 → P H') :
    ∃ ρ h ds h', RepH K ρ H h ∧ DVs K ρ H ds vs ∧ φ ds h = some (.rol [.int n], h') ∧ ∀ H' ρ', Ext ρ H ρ' H' → RepH K ρ' H' h' → P H' := by
  have hp : ∃ φ' : Fun, (∀ ds h h', φ ds h = some (.rol [.int n], h') → φ' ds h = some (.int 0, h')) ∧ (∀ ds h d h', φ' ds h = some (d, h') → d = .int 0 ∧ φ ds h = some (.rol [.int n], h')) := by
    refine ⟨fun ds h => match φ ds h with
      | some (d, h') => if exOf d = some n then some (.int 0, h') else none
      | none => none, fun ds h h' e => ?_, fun ds h d h' e => ?_⟩
    · simp [e, exOf]
    · cases q : φ ds h with
      | none => simp [q] at e
      | some p =>
        obtain ⟨d2, h2⟩ := p
        simp only [q] at e
        split at e
        · rename_i z
          cases e
          exact ⟨rfl, by rw [exOf_eq z]⟩
        · cases e
  obtain ⟨φ', f1, f2⟩ := hp
  have e' : callC φ' ds h = some (.int 0, h1) := by
    have nb : ∀ ds : List D, (if argsOk ds then (φ ds []).bind fun (d, h') => (match h' with
      | [] => if closed d then some (d, h) else none
      | [.lst es] => (match d with
          | .ref 0 => if closeds es then some (.ref h.length, h ++ [.lst es]) else none
          | _ => none)
      | _ => none)
    else none) = some (.rol [.int n], h1) → (if argsOk ds then (φ' ds []).bind fun (d, h') => (match h' with
      | [] => if closed d then some (d, h) else none
      | [.lst es] => (match d with
          | .ref 0 => if closeds es then some (.ref h.length, h ++ [.lst es]) else none
          | _ => none)
      | _ => none)
    else none) = some (.int 0, h1) := by
      intro ds e
      split at e
      case isFalse => cases e
      rename_i hc
      rw [if_pos hc]
      cases q : φ ds [] with
      | none => simp [q] at e
      | some p =>
        obtain ⟨d2, h2⟩ := p
        simp only [q, Option.bind_some] at e
        match h2, e, q with
        | [], e, q =>
          simp only at e
          split at e
          case isFalse => cases e
          simp only [Option.some.injEq, Prod.mk.injEq] at e
          obtain ⟨rfl, rfl⟩ := e
          rw [f1 _ _ _ q]
          rfl
        | [.lst es], e, q =>
          simp only at e
          split at e
          · split at e <;> cases e
          · cases e
        | [.dct _], e, q => cases e
        | [.ids _], e, q => cases e
        | _ :: _ :: _, e, q => simp at e
    cases ds with
    | nil => exact nb [] e
    | cons d0 rest =>
      cases d0 with
      | ref r =>
        have e1 : (if closeds rest then (match h[r]? with
      | some (.lst es) => if closeds es then (φ (.ref 0 :: rest) [.lst es]).bind fun (d, h') => (match h' with
          | [.lst es'] => if closed d && closeds es' then some (d, h.set r (.lst es')) else none
          | _ => none)
        else none
      | _ => none)
    else none) = some (.rol [.int n], h1) := e
        show (if closeds rest then (match h[r]? with
      | some (.lst es) => if closeds es then (φ' (.ref 0 :: rest) [.lst es]).bind fun (d, h') => (match h' with
          | [.lst es'] => if closed d && closeds es' then some (d, h.set r (.lst es')) else none
          | _ => none)
        else none
      | _ => none)
    else none) = some (.int 0, h1)
        split at e1
        case isFalse => cases e1
        rename_i hc
        rw [if_pos hc]
        cases hr : h[r]? with
        | none => simp [hr] at e1
        | some ob =>
          cases ob with
          | lst es =>
            simp only [hr] at e1 ⊢
            split at e1
            case isFalse => cases e1
            rename_i hc2
            rw [if_pos hc2]
            cases q : φ (.ref 0 :: rest) [.lst es] with
            | none => simp [q] at e1
            | some p =>
              obtain ⟨d2, h2⟩ := p
              simp only [q, Option.bind_some] at e1
              match h2, e1, q with
              | [.lst es'], e1, q =>
                simp only at e1
                split at e1
                case isFalse => cases e1
                rename_i hc3
                simp only [Option.some.injEq, Prod.mk.injEq] at e1
                obtain ⟨rfl, rfl⟩ := e1
                rw [f1 _ _ _ q]
                simp only [Option.bind_some]
                rw [if_pos]
                simp only [Bool.and_eq_true] at hc3 ⊢
                exact ⟨rfl, hc3.2⟩
              | [], e1, q => cases e1
              | [.dct _], e1, q => cases e1
              | [.ids _], e1, q => cases e1
              | _ :: _ :: _, e1, q => simp at e1
          | _ => simp [hr] at e1
      | _ => exact nb _ e
  obtain ⟨ρ0, h0, ds0, d0, h0', a1, a2, a3, a4⟩ := callC_ok r0 q0 e' (Q := fun _ H' => P H') (fun v H' ρ' ex r _ => o H' ρ' ex r)
  obtain ⟨rfl, a5⟩ := f2 _ _ _ _ a3
  exact ⟨ρ0, h0, ds0, h0', a1, a2, a5, fun H' ρ' ex r => a4 (.int 0) H' ρ' ex r (DV.int' 0)⟩
theorem callV_ok {K : Kw} {ρ : Rho} {H : Hp} {φ : Fun} {h h1 : AH} {ds : List D} {vs : List V} {d : D} {Q : VK} (r0 : RepH K ρ H h) (q0 : DVs K ρ H ds vs) (e : callC φ ds h = some (d, h1)) (hd : exOf d = none) (o : Out K ρ H d h1 Q) :
    ∃ ρ h ds d h', RepH K ρ H h ∧ DVs K ρ H ds vs ∧ φ ds h = some (d, h') ∧ exOf d = none ∧ Out K ρ H d h' Q := by
  have hp : ∃ φ' : Fun, (∀ ds h d h', φ ds h = some (d, h') → exOf d = none → φ' ds h = some (d, h')) ∧ (∀ ds h d h', φ' ds h = some (d, h') → exOf d = none ∧ φ ds h = some (d, h')) := by
    refine ⟨fun ds h => match φ ds h with
      | some (d, h') => if exOf d = none then some (d, h') else none
      | none => none, fun ds h d h' e z => ?_, fun ds h d h' e => ?_⟩
    · simp [e, z]
    · cases q : φ ds h with
      | none => simp [q] at e
      | some p =>
        obtain ⟨d2, h2⟩ := p
        simp only [q] at e
        split at e
        · rename_i z
          cases e
          exact ⟨z, rfl⟩
        · cases e
  obtain ⟨φ', f1, f2⟩ := hp
  have e' : callC φ' ds h = some (d, h1) := by
    have nb : ∀ ds : List D, (if argsOk ds then (φ ds []).bind fun (d, h') => (match h' with
      | [] => if closed d then some (d, h) else none
      | [.lst es] => (match d with
          | .ref 0 => if closeds es then some (.ref h.length, h ++ [.lst es]) else none
          | _ => none)
      | _ => none)
    else none) = some (d, h1) → (if argsOk ds then (φ' ds []).bind fun (d, h') => (match h' with
      | [] => if closed d then some (d, h) else none
      | [.lst es] => (match d with
          | .ref 0 => if closeds es then some (.ref h.length, h ++ [.lst es]) else none
          | _ => none)
      | _ => none)
    else none) = some (d, h1) := by
      intro ds e
      split at e
      case isFalse => cases e
      rename_i hc
      rw [if_pos hc]
      cases q : φ ds [] with
      | none => simp [q] at e
      | some p =>
        obtain ⟨d2, h2⟩ := p
        simp only [q, Option.bind_some] at e
        have hx : exOf d2 = none := by
          match h2, e with
          | [], e =>
            simp only at e
            split at e
            case isFalse => cases e
            simp only [Option.some.injEq, Prod.mk.injEq] at e
            obtain ⟨rfl, rfl⟩ := e
            exact hd
          | [.lst es], e =>
            simp only at e
            split at e
            · rfl
            · cases e
          | [.dct _], e => cases e
          | [.ids _], e => cases e
          | _ :: _ :: _, e => simp at e
        rw [f1 _ _ _ _ q hx]
        exact e
    cases ds with
    | nil => exact nb [] e
    | cons d0 rest =>
      cases d0 with
      | ref r =>
        have e1 : (if closeds rest then (match h[r]? with
      | some (.lst es) => if closeds es then (φ (.ref 0 :: rest) [.lst es]).bind fun (d, h') => (match h' with
          | [.lst es'] => if closed d && closeds es' then some (d, h.set r (.lst es')) else none
          | _ => none)
        else none
      | _ => none)
    else none) = some (d, h1) := e
        show (if closeds rest then (match h[r]? with
      | some (.lst es) => if closeds es then (φ' (.ref 0 :: rest) [.lst es]).bind fun (d, h') => (match h' with
          | [.lst es'] => if closed d && closeds es' then some (d, h.set r (.lst es')) else none
          | _ => none)
        else none
      | _ => none)
    else none) = some (d, h1)
        split at e1
        case isFalse => cases e1
        rename_i hc
        rw [if_pos hc]
        cases hr : h[r]? with
        | none => simp [hr] at e1
        | some ob =>
          cases ob with
          | lst es =>
            simp only [hr] at e1 ⊢
            split at e1
            case isFalse => cases e1
            rename_i hc2
            rw [if_pos hc2]
            cases q : φ (.ref 0 :: rest) [.lst es] with
            | none => simp [q] at e1
            | some p =>
              obtain ⟨d2, h2⟩ := p
              simp only [q, Option.bind_some] at e1
              have hx : exOf d2 = none := by
                match h2, e1 with
                | [.lst es'], e1 =>
                  simp only at e1
                  split at e1
                  case isFalse => cases e1
                  simp only [Option.some.injEq, Prod.mk.injEq] at e1
                  obtain ⟨rfl, rfl⟩ := e1
                  exact hd
                | [], e1 => cases e1
                | [.dct _], e1 => cases e1
                | [.ids _], e1 => cases e1
                | _ :: _ :: _, e1 => simp at e1
              rw [f1 _ _ _ _ q hx]
              exact e1
          | _ => simp [hr] at e1
      | _ => exact nb _ e
  obtain ⟨ρ0, h0, ds0, d0, h0', a1, a2, a3, a4⟩ := callC_ok r0 q0 e' o
  obtain ⟨b1, b2⟩ := f2 _ _ _ _ a3
  exact ⟨ρ0, h0, ds0, d0, h0', a1, a2, b2, b1, a4⟩
section
variable {ξ : XR} {X : Cx} {e a : Expr} {es : List Expr} {m ma : Sl → AH → Option (D × AH)} {pos p pos2 : Pos}
theorem rs_retV (he : RE X e m) : RS ξ X (.Return (some e) pos) (fun σ h => (m σ h).bind fun (d, h1) => match d with
    | .rol _ => none
    | d => some (.rt d, σ, h1)) := (ps_ret he).imp fun D σ H ⟨ρ, σd, h, f, σd', h', rs, rh, e, o⟩ => by
  cases ea : m σd h with
  | none => simp [ea] at e
  | some p =>
    obtain ⟨d, h1⟩ := p
    simp only [ea, Option.bind_some] at e
    cases d with
    | rol ds => cases e
    | _ =>
      simp only [Option.some.injEq, Prod.mk.injEq] at e
      obtain ⟨rfl, rfl, rfl⟩ := e
      exact ⟨ρ, σd, h, _, h1, rs, rh, ea, fun v H1 ρ1 e1 r1 q1 => EndD.val (o σ H1 ρ1 e1 (rs.ext e1) r1) (.inr rfl) v q1⟩
/-- what is wanted of the exception, by its number -/
def wantX (Cc : Addr) (E : XK) : Int → Hp → Prop := fun n H => ∀ dx, H dx = none → E (.ref Cc) (some dx) (L2.upd H dx (.xd [(("at" : Str), .int n)]))
theorem rs_raise {Cc fI : Addr} {E : XK} {k : Nat} {x : Str} (hc : X.calm = true) (T : Bad.Txt X.prog X.K X.mg x Cc fI) (hr : Room k X.A) (tk : Takes X (fun cls d _ H => E cls d H)) (ha : RE X a ma) (hp : plainE a = true) (hg : Gl X x) (hx : (x == ("__debug__" : Str)) = false) :
    RS (some (wantX Cc E)) X (.Raise (some (.Call (.Name x p) [a] [] pos)) none pos2) (fun σ h => (ma σ h).bind fun (d, h1) => match d with
      | .int n => some (.rt (.rol [.int n]), σ, h1)
      | _ => none) :=
  (ps_raise hc tk (Bad.pmk_bad T hr (pa_cons ha pa_nil (star_cons hp _ _)) hg hx (star_cons hp _ _) rfl)).imp fun D σ H ⟨ρ, σd, h, f, σd', h', rs, rh, e, o⟩ => by
    cases ea : ma σd h with
    | none => simp [ea] at e
    | some p =>
      obtain ⟨d, h1⟩ := p
      simp only [ea, Option.bind_some] at e
      cases d with
      | int n =>
        simp only [Option.some.injEq, Prod.mk.injEq] at e
        obtain ⟨rfl, rfl, rfl⟩ := e
        refine ⟨ρ, σd, h, _, h1, rs, rh, ea, fun v H1 ρ1 e1 r1 q1 => ⟨v, rfl, fun dx hd => ?_⟩⟩
        obtain rfl := q1.i
        exact o σ H1 ρ1 e1 (rs.ext e1) r1 dx hd
      | _ => cases e
end
/-! ### f(a, .., k = v, ..), f may raise, in the body of a try -/
section
variable {X : Cx} {CX : CXT} {k : Nat} {f : Addr} {fd : FuncData} {ps ks : List Str} {sp : Sp} {x : Str} {p pos : Pos} {e : Expr} {es : List Expr} {kws : List Keyword} {t tk : TA} {g : List Value → List Value → List Value} {gV : List V → List V → List V} {E : L2.St → XK}
def tCallKS (sp : Sp) (gV : List V → List V → List V) (E : L2.St → XK) (t tk : TA) : TE := fun σ H Q => t σ H fun vs H1 => tk σ H1 fun zs H2 => sp (gV vs zs) H2 Q (E σ)
theorem run_fnkS {pins : List (Addr × Obj)} {σ : L2.St} {H : Hp} {s : Shared} {Q : VK} {us ws : List Value} {vs zs : List V} (F : FnOk X.prog X.w X.K X.mg X.base CX k f fd ps sp) (hr : Room k X.A) (hb : KBinds X.K fd ps ks g gV) (hx : PassesAt CX X σ (E σ))
    (I : Inv X pins σ H s) (r : Vals vs us) (rz : Vals zs ws) (h : sp (gV vs zs) H Q (E σ)) : wpAny (model X.prog X.w) X.A (call (.ref f) us (ks.zip ws)) (EP X pins σ Q) X.xe s := by
  have r2 := hb.rel r rz
  have hl : (g us ws).length = ps.length := by rw [← r2.length]; exact F.len _ _ _ _ h
  refine wpAny_call (codeAny_mono (F.run X.A X.stack s H ⟨us, ks.zip ws⟩ (g us ws) (gV vs zs) Q (E σ) hr I.env0 (hb.to s us ws I.kIn hl) r2 h) fun r s' hq => ?_)
  cases r with
  | error e => exact hx pins H s e s' I hq
  | ok fl =>
    cases fl with
    | ret u => exact I.after hq
    | next => exact False.elim hq
    | brk => exact False.elim hq
    | cont => exact False.elim hq
theorem pe_callKS (F : FnOk X.prog X.w X.K X.mg X.base CX k f fd ps sp) (hr : Room k X.A) (hg : Gl X x) (hm : X.mg x = some (.ref f)) (hk : PySem.W.keepIn X.K (.ref f) = true) (hb : KBinds X.K fd ps ks g gV) (hx : ∀ σ, PassesAt CX X σ (E σ))
    (ha : PA X (e :: es) t) (hkw : PK X kws tk) (hall : (backToKw pos (keywordEach kws X.env)).all (·.1.isSome) = true) (hks : (backToKw pos (keywordEach kws X.env)).filterMap (·.1) = ks)
    (hdb : (x == ("__debug__" : Str)) = false) (he : starEach (e :: es) X.env = (false, eval e X.env) :: starEach es X.env)
    (hpl : ((backTo pos (starEach (e :: es) X.env)).any (·.1) || (backToKw pos (keywordEach kws X.env)).any (·.1.isNone)) = false) :
    PE X (.Call (.Name x p) (e :: es) kws pos) (tCallKS sp gV E t tk) := by
  refine ⟨fun pins s σ H Q I h => ?_⟩
  refine wpAny_Call_Name_kw (ld_glob I hg hm ?_ hdb)
  refine PySem.W.callWith_KW (h₀ := X.base) I.ok.mod.kin hk hall (thn (ha.run pos pins s σ H _ I h) fun us s1 ⟨vs, H1, I1, r, q⟩ => ?_) hpl he
  refine thn (hkw.run pos pins s1 σ H1 _ I1 q) fun ws s2 ⟨zs, H2, I2, rz, q2⟩ => ⟨I2.kIn, ?_⟩
  rw [hks]
  exact run_fnkS F hr hb (hx σ) I2 r rz q2
end
theorem kwNames {env : Env} {pos : Pos} : ∀ l : List Keyword, (backToKw pos (keywordEach l env)).map (·.1) = l.map (·.arg)
  | [] => rfl
  | ⟨n, v, q⟩ :: r => by
    have ih' : ((backToKw pos (keywordEach r env)).map (·.1)) = r.map (·.arg) := kwNames r
    show n :: ((backToKw pos (keywordEach r env)).map (·.1)) = n :: r.map (·.arg)
    rw [ih']
end PyD

/-! PyX4: try: return (s1, f(..)) except own as e: .. -/
namespace PyD
open PySem PySem.Spec PyProof.Rows L2
theorem OkE.tr {ck : Ck} {C : Nat → Fun} {X : Cx} (ok : OkE ck C X) (pn : List (Addr × Obj)) (xe : Value → Shared → Prop) : OkE ck C (X.tr pn xe) :=
  ⟨ok.hN, ok.nd, ok.vis, ok.gl, ok.loc, ok.cf, ok.kind, ok.calm, ok.fns, ok.cst, ok.blt⟩
section
variable {X : Cx} {fuel : Nat} {C : Nat → Fun} {ck : Ck}
theorem rs_tryC (ok : OkE ck C X) (hs : X.stack = X.env :: X.outer) (hf : X.env.frame = some X.env.locals) {Cc O fa : Addr} {fd : FuncData} {ps ks : List Str} {k n j i f : Nat} {x x0 x1 x2 x3 o : Str} {s1 s2 : String} {as kas : Exs} {es : List Expr} {kws : List Keyword}
    {k1 k2 k3 k4 k5 k6 k7 : Nat} {b1 b2 b3 b4 b5 b6 b7 b8 p1 p2 p3 p4 p5 q1 q2 q3 q4 r1 r2 r3 r4 t c1 c2 c3 c4 c5 c6 c7 c8 c9 c10 : Pos}
    (F : FnOk X.prog X.w X.kw X.mg X.base (L2.CX X.prog X.w) k fa fd ps (spX Cc X.kw n (C f))) (hr : Room k X.A) (hg : Gl X x) (hm : X.mg x = some (.ref fa)) (hk : PySem.W.keepIn X.kw (.ref fa) = true) (hb : KBinds X.kw fd ps ks (gJ j) (gJ j))
    (has : chks ck as es = true) (hks : chkK ck kas kws = true) (hn : es.length + kws.length = n) (hj : es.length = j) (hne : es ≠ []) (hsome : kws.all (fun k => k.arg.isSome) = true) (hkn : kws.filterMap (·.arg) = ks) (hdb : (x == ("__debug__" : Str)) = false)
    (T : Bad.Cls X.K X.mg x1 x2 x3 Cc) (hO : X.mg x0 = some (.ref O)) (hexm : PySem.W.exmOne X.K (.ref Cc) (.ref O) = some true)
    (hN : X.N[i]? = some ("e" : Str)) (hev : ck.vis "e" = true) (hel : X.env.scope.names.lookup ("e" : Str) = some .local) (hgi : Gl X "isinstance") (g0 : Gl X x0) (g1 : Gl X x1) (g2 : Gl X x2) (g3 : Gl X x3)
    (d0 : (x0 == ("__debug__" : Str)) = false) (d1 : (x1 == ("__debug__" : Str)) = false) (d2 : (x2 == ("__debug__" : Str)) = false) (d3 : (x3 == ("__debug__" : Str)) = false) :
    RS none X (.Try [.Return (some (.Tuple [.Constant (.str (Str.ofString s1)) k1 b1, .Call (.Name x b2) es kws b3] k2 b4)) b5] [.ExceptHandler (some (.Name x0 b6)) (some "e")
      [.If (Bad.hTest x1 x2 x3 p1 p2 p3 p4 p5 q1 q2 q3 q4 r1 r2 r3 r4 t) [.Return (some (.Tuple [.Constant (.str o) k3 c1, .Constant (.int 0) k4 c2] k5 c3)) c4] [] c5, .Return (some (.Tuple [.Constant (.str (Str.ofString s2)) k6 c6, .Attribute (.Name "e" c7) "at" c8] k7 c9)) c10] b7] [] [] b8)
      (ex C fuel (.tryC s1 f as kas s2)) := by
  have hNd : X.N.Nodup := by rw [ok.hN]; exact ok.nd
  have hmi : X.mg "isinstance" = none := ok.blt _ (by decide)
  obtain ⟨hl1, hp1⟩ := chks_len has
  have nm : ∀ pos, (backToKw pos (keywordEach kws X.env)).all (·.1.isSome) = true := fun pos => by
    have : (backToKw pos (keywordEach kws X.env)).all (·.1.isSome) = ((backToKw pos (keywordEach kws X.env)).map (·.1)).all (·.isSome) := by rw [List.all_map]; rfl
    rw [this, kwNames, List.all_map]; exact hsome
  have nf : ∀ pos, (backToKw pos (keywordEach kws X.env)).filterMap (·.1) = ks := fun pos => by
    have : (backToKw pos (keywordEach kws X.env)).filterMap (·.1) = ((backToKw pos (keywordEach kws X.env)).map (·.1)).filterMap id := by rw [List.filterMap_map]; rfl
    rw [this, kwNames, List.filterMap_map]; exact hkn
  have nn : ∀ pos, (backToKw pos (keywordEach kws X.env)).any (·.1.isNone) = false := fun pos => by
    rw [List.any_eq_false]
    intro a ha
    have := List.all_eq_true.mp (nm pos) a ha
    cases q : a.1 <;> simp_all
  cases es with
  | nil => exact absurd rfl hne
  | cons e0 er =>
    have hp0 := hp1
    rw [List.all_cons, Bool.and_eq_true] at hp1
    have B1 : ∀ (W : WX) (pn : List (Addr × Obj)) (xe : Value → Shared → Prop), Takes (X.tr pn xe) W → PSs (X.tr pn xe) [.Return (some (.Tuple [.Constant (.str (Str.ofString s1)) k1 b1, .Call (.Name x b2) (e0 :: er) kws b3] k2 b4)) b5] (tRet (tTup (tCons (tC (.str (Str.ofString s1))) (tCons (tCallKS (spX Cc X.kw n (C f)) (gJ j) (WE W) (tDs X.kw (evs C as)) (tDs X.kw (evs C kas))) tNil)))) := fun W pn xe tk => by
      have ok' := ok.tr pn xe
      refine pss_one (ps_ret (pe_tup (pa_cons pe_str (pa_cons (pe_callKS (X := X.tr pn xe) F hr hg hm hk hb (fun σ => passAt tk σ) (sEs ok' as _ has) (sK ok' kas _ hks) (nm _) (nf _) hdb (star_cons hp1.1 _ _) ?_) pa_nil))))
      rw [star_any _ _ hp0, nn]; rfl
    have R := (ps_try_as (X := X) (np := b6) (pos' := b7) (pos := b8) (i := i) (n := "e") (x := x0) (c := .ref O) (tb := fun W => tRet (tTup (tCons (tC (.str (Str.ofString s1))) (tCons (tCallKS (spX Cc X.kw n (C f)) (gJ j) (WE W) (tDs X.kw (evs C as)) (tDs X.kw (evs C kas))) tNil)))) (ts := Bad.tSu Cc i (Str.ofString s2)) (Wout := fun _ _ _ _ => False)
      hs hf hNd hN hel ⟨g0, d0, .inl hO⟩ takes0 (fun W pn xe tk _ => B1 W pn xe tk) (fun a oe cls d pn hz hfl => Bad.pss_suite (p1 := p1) (p2 := p2) (p3 := p3) (p4 := p4) (p5 := p5) (q1 := q1) (q2 := q2) (q3 := q3) (q4 := q4) (r1 := r1) (r2 := r2) (r3 := r3) (r4 := r4) (t := t) (s1 := c1) (s2 := c2) (s3 := c3) (s4 := c4) (s5 := c5) (s6 := c6) (s7 := c7) (s8 := c8) (s9 := c9) (s10 := c10) (o := o) (k1 := k3) (k2 := k4) (k3 := k5) (k4 := k6) (k5 := k7) T hz hfl hN (ok.vis _ hev) hgi hmi g1 g2 g3 d1 d2 d3))
    refine ⟨fun pins s σ H D I q => R.run pins s σ H D I ?_⟩
    obtain ⟨ρ, σd, h, fl, σd', h', rs, rh, e, fin⟩ := q
    have hi : i < X.N.length := (List.getElem?_eq_some_iff.mp hN).1
    simp only [ex] at e
    cases ea : evs C as σd h with
    | none => simp [ea] at e
    | some p =>
      obtain ⟨ds, h1⟩ := p
      cases eb : evs C kas σd h1 with
      | none => simp [ea, eb] at e
      | some p =>
        obtain ⟨zs, h2⟩ := p
        cases ec : callC (C f) (ds ++ zs) h2 with
        | none => simp [ea, eb, ec] at e
        | some p =>
          obtain ⟨d, h3⟩ := p
          simp only [ea, eb, ec, Option.bind_some] at e
          refine ⟨ρ, σd, h, ds, h1, rs, rh, ea, fun vs H1 ρ1 e1 r1 q1 => ⟨ρ1, σd, h1, zs, h2, rs.ext e1, r1, eb, fun ws H2 ρ2 e2 r2 q2 => ?_⟩⟩
          have l1 : vs.length = j := by rw [← q1.length, evs_len C _ _ _ _ _ ea, hl1, hj]
          have eg : gJ j vs ws = vs ++ ws := by unfold gJ; rw [if_pos l1]
          show spX Cc X.kw n (C f) (gJ j vs ws) H2 _ _
          rw [eg]
          have q3 := (DVs.ext e2 _ q1).append q2
          have hlen : (vs ++ ws).length = n := by
            rw [List.length_append, ← q1.length, ← q2.length, evs_len C _ _ _ _ _ ea, evs_len C _ _ _ _ _ eb, hl1, chkK_len hks, hn]
          refine ⟨hlen, ?_⟩
          cases ed : exOf d with
          | some m =>
            have hd := exOf_eq ed
            subst hd
            simp only [Option.some.injEq, Prod.mk.injEq] at e
            obtain ⟨rfl, rfl, rfl⟩ := e
            have want := callX_ok (P := fun H' => ∀ dx, H' dx = none → wAs X.K (.ref O) i (Bad.tSu Cc i (Str.ofString s2)) (fun _ _ _ _ => False) D (.ref Cc) (some dx) σ (L2.upd H' dx (.xd [(("at" : Str), .int m)]))) r2 q3 ec (fun H' ρ' ex r dx hdx => ?_)
            · obtain ⟨ρ0, h0, ds0, h0', w1, w2, w3, w4⟩ := want
              exact ⟨ρ0, h0, ds0, _, h0', w1, w2, w3, w4⟩
            · refine ⟨true, hexm, fun _ a ha => ⟨rfl, ?_, dx, .int m, rfl, L2.upd_same, fun p hp => ?_⟩, fun z => by cases z⟩
              · rw [List.getElem?_set_self]
                rw [I.len]; exact hi
              · have f1 : Ext ρ' H' ρ' (L2.upd H' dx (.xd [(("at" : Str), .int m)])) := Ext.fresh hdx
                have f2 : Ext ρ' (L2.upd H' dx (.xd [(("at" : Str), .int m)])) ρ' (L2.upd (L2.upd H' dx (.xd [(("at" : Str), .int m)])) p (.tup [.str (Str.ofString s2), .int m])) := Ext.fresh hp
                have et := (e1.trans e2).trans (ex.trans (f1.trans f2))
                refine EndD.val (fin σ _ ρ' et (rs.ext et) ((r.fresh hdx).fresh hp)) (.inl rfl) (.ref p) ?_
                simp only [DV]
                exact ⟨p, _, rfl, .inl ⟨.inl L2.upd_same, (r.fresh hdx).notMem hp⟩, .cons (DV.str' s2) (.one (DV.int' m))⟩
          | none =>
            have ho : fl = .rt (.tup [.str s1, d]) ∧ σd' = σd ∧ h' = h3 := by
              cases d with
              | rol xs =>
                exfalso
                match xs, e, ed with
                | [], e, ed => cases e
                | [.int _], e, ed => cases ed
                | [.non], e, ed => cases e
                | [.bl _], e, ed => cases e
                | [.str _], e, ed => cases e
                | [.tup _], e, ed => cases e
                | [.lst _], e, ed => cases e
                | [.rol _], e, ed => cases e
                | [.ref _], e, ed => cases e
                | _ :: _ :: _, e, ed => simp at e
              | _ =>
                simp only [Option.some.injEq, Prod.mk.injEq] at e
                exact ⟨e.1.symm, e.2.1.symm, e.2.2.symm⟩
            obtain ⟨rfl, rfl, rfl⟩ := ho
            have hO2 : Out X.kw ρ2 H2 d h' (fun y H3 => [V.str (Str.ofString s1), y].length ≤ sizeLine ∧ ∀ p, H3 p = none → D.rt (.ref p) (L2.upd H3 p (.tup [.str (Str.ofString s1), y]))) := by
              intro v H3 ρ3 ex r qv
              refine ⟨sizeLine_eq ▸ (by decide : 2 ≤ 16777216), fun p hp => ?_⟩
              have et := (e1.trans e2).trans (ex.trans (Ext.fresh (o := .tup [.str (Str.ofString s1), v]) hp))
              refine EndD.val (fin σ _ ρ3 et (rs.ext et) (r.fresh hp)) (.inl rfl) (.ref p) ?_
              simp only [DV]
              exact ⟨p, _, rfl, .inl ⟨.inl L2.upd_same, r.notMem hp⟩, .cons (DV.str' s1) (.one (DV.ext (Ext.fresh hp) _ qv))⟩
            obtain ⟨ρ0, h0, ds0, d0, h0', w1, w2, w3, w4, w5⟩ := callV_ok r2 q3 ec ed hO2
            refine ⟨ρ0, h0, ds0, d0, h0', w1, w2, w3, ?_⟩
            rw [w4]
            exact w5
end
end PyD

namespace PyD
open PySem PySem.Spec PyProof.Rows L2
def swNames (sc : Scope) (ts : List Expr) : List Str :=
  let line := (ts.head?.map (·.pos.line)).getD 0
  ts.filterMap fun
      | .Name id pos => if sc.names.lookup id == some .local && pos.line == line then some id else none
      | _ => none
/-- how a, b = x, y stores: none: not told; some none: as a tuple; some names: from behind -/
def swp (sc : Scope) (ts vs : List Expr) : Option (Option (List Str)) :=
  if !(ts.length == 2 || ts.length == 3) || vs.length != ts.length then some none
  else if vs.any fun | .Starred .. => true | _ => false then some none
  else if (swNames sc ts).length != ts.length || (swNames sc ts).eraseDups.length != (swNames sc ts).length then some none
    else if vs.all (foldedForSure 8) then some none
    else if vs.all (constantsAlone 8) then none
    else some (some (swNames sc ts))
theorem swp_ok {env : Env} {ts vs : List Expr} {k k2 : Nat} {p p2 : Pos} {r : Option (List Str)} (hk : env.scope.kind = .function) (h : swp env.scope ts vs = some r) : swappedStores [.Tuple ts k p] (.Tuple vs k2 p2) env = pure r := by
  have hb : env.blockKind = .function := by unfold Env.blockKind; rw [hk]; rfl
  unfold swappedStores
  dsimp only
  rw [hb]
  unfold swp at h
  split at h
  · rename_i c
    cases h
    exact if_pos (by rw [c]; rfl)
  rename_i c1
  refine (if_neg (by simpa using c1)).trans ?_
  split at h
  · rename_i c
    cases h
    exact if_pos c
  rename_i c2
  refine (if_neg c2).trans ?_
  split at h
  · rename_i c
    cases h
    exact if_pos c
  rename_i c3
  refine (if_neg c3).trans ?_
  split at h
  · rename_i c
    cases h
    exact if_pos c
  rename_i c4
  refine (if_neg c4).trans ?_
  split at h
  · cases h
  rename_i c5
  cases h
  exact (if_neg c5)
theorem sws_no {env : Env} {ts : List Expr} {e : Expr} {k : Nat} {p : Pos} (h : (match e with | .Tuple .. => false | _ => true) = true) : swappedStores [.Tuple ts k p] e env = pure none := by
  cases e <;> first | rfl | simp at h
/-- whether a comprehension's value goes straight into the name -/
def swB (sc : Scope) (x : Str) (px : Pos) : Expr → Bool
  | .ListComp _ _ s p => sc.names.lookup x == some .local && px.line == p.line && !(s.names.any fun (n, k) => n == x && (k == .local || k == .cell))
  | _ => false
def isLC : Expr → Bool
  | .ListComp .. => true
  | _ => false
theorem swB_ok {env : Env} {x : Str} {px : Pos} {e : Expr} {l : Nat} (hk : env.scope.kind = .function) (h : isLC e = true ∨ notComp e = true) : swapsWith e (some (.Name x px)) l env = pure (swB env.scope x px e) := by
  have hb : env.blockKind = .function := by unfold Env.blockKind; rw [hk]; rfl
  rcases h with h | h
  · cases e with
    | ListComp a b s p =>
      unfold swapsWith
      dsimp only
      rw [hb]
      rfl
    | _ => simp [isLC] at h
  · rw [swaps_no h]
    cases e <;> first | rfl | simp [notComp] at h
/-- try: return (t1, f(..)) except own as e: if not isinstance(e, rx) or isinstance(e, h2) or isinstance(e, h3): return (o, 0); return (t2, e.at) -/
def chkTry (ck : Ck) (t1 : String) (f : Nat) (as ks : Exs) (t2 : String) (st : Stmt) : Bool := match st with
  | .Try [.Return (some (.Tuple [.Constant (.str s1) _ _, .Call (.Name x _) es kws _] _ _)) _] [.ExceptHandler (some (.Name x0 _)) (some e0)
      [.If (.BoolOp .Or [.UnaryOp .Not (.Call (.Name i1 _) [.Name e1 _, .Name x1 _] [] _) _, .Call (.Name i2 _) [.Name e2 _, .Name x2 _] [] _, .Call (.Name i3 _) [.Name e3 _, .Name x3 _] [] _] _) [.Return (some (.Tuple [.Constant (.str _) _ _, .Constant (.int z) _ _] _ _)) _] [] _,
       .Return (some (.Tuple [.Constant (.str s2) _ _, .Attribute (.Name e4 _) at' _] _ _)) _] _] [] [] _ =>
    decide (s1 = Str.ofString t1) && decide (s2 = Str.ofString t2) && decide (z = 0) && decide (e0 = "e") && decide (e1 = "e") && decide (e2 = "e") && decide (e3 = "e") && decide (e4 = "e") && decide (i1 = "isinstance") && decide (i2 = "isinstance") && decide (i3 = "isinstance") && decide (at' = "at") &&
    decide (x0 = ck.own) && decide (x1 = ck.rx) && decide (x2 = ck.h2) && decide (x3 = ck.h3) && ck.gl x0 && ck.gl x1 && ck.gl x2 && ck.gl x3 && okName x0 && okName x1 && okName x2 && okName x3 && ck.gl "isinstance" && ck.vis "e" && decide (ck.sc.names.lookup ("e" : Str) = some .local) &&
    decide (ck.N[ck.N.length - 1]? = some "e") && decide ((f, x, es.length + kws.length) ∈ ck.rzs) && okName x && ck.gl x && !es.isEmpty && chks ck as es && chkK ck ks kws && kws.all (fun k => k.arg.isSome) && decide ((f, es.length, kws.filterMap (·.arg)) ∈ ck.kws)
  | _ => false
mutual
def chkS (ck : Ck) : S → Stmt → Bool
  | .set i e, st => (match st with
    | .Assign [.Name x px] e' pos => decide (ck.N[i]? = some x) && ck.loc x && chk ck e e' && (isLC e' || notComp e')
    | _ => false)
  | .par2 i j a b, st => (match st with
    | .Assign [.Tuple [.Name x px, .Name y py] kt pt] (.Tuple [a', b'] k2 pt2) pos => decide (ck.N[i]? = some x) && decide (ck.N[j]? = some y) && decide (i ≠ j) && decide (ck.sc.names.lookup x = some .local) && decide (ck.sc.names.lookup y = some .local) &&
      chk ck a a' && chk ck b b' && plainE a' && plainE b' && decide (swp ck.sc [.Name x px, .Name y py] [a', b'] = some (some [x, y]))
    | _ => false)
  | .par3 i j l a b c, st => (match st with
    | .Assign [.Tuple [.Name x px, .Name y py, .Name z pz] kt pt] (.Tuple [a', b', c'] k2 pt2) pos => decide (ck.N[i]? = some x) && decide (ck.N[j]? = some y) && decide (ck.N[l]? = some z) && decide (i ≠ j) && decide (i ≠ l) && decide (j ≠ l) &&
      decide (ck.sc.names.lookup x = some .local) && decide (ck.sc.names.lookup y = some .local) && decide (ck.sc.names.lookup z = some .local) &&
      chk ck a a' && chk ck b b' && chk ck c c' && plainE a' && plainE b' && plainE c' && decide (swp ck.sc [.Name x px, .Name y py, .Name z pz] [a', b', c'] = some (some [x, y, z]))
    | _ => false)
  | .asg t e, st => (match st with
    | .Assign [.Tuple ts kt pt] e' pos => chk ck e e' && chkT ck t (.Tuple ts kt pt) && notComp e' && (match e' with
      | .Tuple vs _ _ => decide (swp ck.sc ts vs = some none)
      | _ => true)
    | _ => false)
  | .aug i op e, st => (match st with
    | .AugAssign (.Name x px) op' e' pos => decide (op = .add ∨ op = .sub) && decide (bopP op = op') && decide (ck.N[i]? = some x) && ck.loc x && chk ck e e'
    | _ => false)
  | .setIx o i e, st => (match st with
    | .Assign [.Subscript o' i' p] e' pos => chk ck e e' && chk ck o o' && chk ck i i' && plainE i' && notComp e'
    | _ => false)
  | .setD o i e, st => (match st with
    | .Assign [.Subscript o' i' p] e' pos => chk ck e e' && chk ck o o' && chk ck i i' && plainE i' && notComp e'
    | _ => false)
  | .setI o i e, st => (match st with
    | .Assign [.Subscript o' i' p] e' pos => chk ck e e' && chk ck o o' && chk ck i i' && plainE i' && notComp e'
    | _ => false)
  | .expr e, st => (match st with
    | .Expr e' pos => notComp e' && chk ck e e'
    | _ => false)
  | .ret e, st => (match st with
    | .Return (some e') pos => !ck.rz && chk ck e e'
    | _ => false)
  | .retN, st => (match st with
    | .Return none pos => true
    | _ => false)
  | .raise e, st => (match st with
    | .Raise (some (.Call (.Name x _) [a] [] _)) none _ => ck.rz && decide (x = ck.rx) && ck.gl x && okName x && plainE a && chk ck e a
    | _ => false)
  | .retV e, st => (match st with
    | .Return (some e') pos => ck.rz && chk ck e e'
    | _ => false)
  | .tryC t1 f as ks t2, st => !ck.rz && chkTry ck t1 f as ks t2 st
  | .ite c t e, st => (match st with
    | .If c' t' e' pos => tstOk c && chk ck c c' && chkSs ck t t' && chkSs ck e e'
    | _ => false)
  | .whl c b, st => (match st with
    | .While c' b' [] pos => tstOk c && chk ck c c' && chkSs ck b b'
    | _ => false)
  | .for_ t it b, st => (match st with
    | .For t' it' b' [] pos => chkT ck t t' && chkI ck it t' it' && !isSet it' && plainE it' && chkSs ck b b'
    | _ => false)
  | .brk, st => (match st with
    | .Break _ => true
    | _ => false)
  | .cnt, st => (match st with
    | .Continue _ => true
    | _ => false)
  | .pass, st => (match st with
    | .Pass _ => true
    | _ => false)
def chkSs (ck : Ck) : Ss → List Stmt → Bool
  | .nil, l => l.isEmpty
  | .cons s ss, l => (match l with
    | st :: sts => chkS ck s st && chkSs ck ss sts
    | [] => false)
end
section
variable {C : Nat → Fun} {fuel : Nat}
theorem ex_setDm (o i e : Ex) : ex C fuel (.setD o i e) = mSetD (ev C e) (ev C o) (ev C i) := by
  funext σ h
  unfold mSetD
  first
    | (simp only [ex]; done)
    | (simp only [ex]; rfl)
theorem rs_setLc {ξ : XR} {ck : Ck} {X : Cx} (ok : OkE ck C X) {elt tg iter : Expr} {ifs : List Expr} {sc : Scope} {pos spos : Pos} {own : List Nat} {mi : Sl → AH → Option (List D × Option Nat × AH)} {t : Tg} {mc : Sl → AH → Option (Bool × AH)} {me : Sl → AH → Option (D × AH)}
    {i : Nat} {y : Str} {py : Pos} (hy : X.N[i]? = some y) (hyl : X.env.scope.names.lookup y = some .local) (hsw : swapsWith (.ListComp elt [⟨tg, iter, ifs, 0⟩] sc pos) (some (.Name y py)) spos.line X.env = pure true)
    (hi : RI X tg iter mi) (hb : blkC ck.N ck.sc sc (own.map fun i => (ck.N.getD i Str.empty, i)) = true) (hs : isSet iter = false) (hp : plainE iter = true) (hv : (slots t).all (fun i => decide (i ∈ own)) = true)
    (hg : ∀ X', OkE (ck.inn sc) C X' → X'.kw = X.kw → RG X' tg t) (hc : ∀ X', OkE (ck.inn sc) C X' → X'.kw = X.kw → PTs X' ifs (tDT X'.kw mc)) (he : ∀ X', OkE (ck.inn sc) C X' → X'.kw = X.kw → RE X' elt me) :
    RS ξ X (.Assign [.Name y py] (.ListComp elt [⟨tg, iter, ifs, 0⟩] sc pos) spos) (fun σ h => (((mi σ h).bind fun (xs, n, h1) => if xs.length ≤ lim then (compL (wipe σ own) t n xs.length mc me xs 0 h1).bind fun (ds, h2) => some (.lst ds, h2) else none)).bind fun (d, h1) => some (.nx, σ.set i (some d), h1)) := by
  have bo := ok.blkOk hb
  have e : (own.map fun i => (ck.N.getD i Str.empty, i)).map (·.2) = own := by
    rw [List.map_map]
    show own.map (fun i => i) = own
    simp
  have hN : X.N.Nodup := by rw [ok.hN]; exact ok.nd
  refine (ps_setLc (wi := tI X.kw mi) (g := gD X.kw t) (tt := tDT X.kw mc) (te := tD X.kw me) ok.calm hN hy hyl hsw hi bo (fun s H Ca cl fp => hg _ (ok.blk sc bo.kind s H Ca cl fp) rfl) (fun s H Ca cl fp => hc _ (ok.blk sc bo.kind s H Ca cl fp) rfl) (fun s H Ca cl fp => he _ (ok.blk sc bo.kind s H Ca cl fp) rfl)
    (fun x => folded_no hp (by cases iter <;> first | rfl | simp [isSet] at hs) _ _)).imp fun D σ H q => ?_
  rw [e]
  exact tAsg_imp (ξ := ξ) (X := X) (i := i) (m := fun σ h => ((mi σ h).bind fun (xs, n, h1) => if xs.length ≤ lim then (compL (wipe σ own) t n xs.length mc me xs 0 h1).bind fun (ds, h2) => some (.lst ds, h2) else none)) (fun σ H Q q => tLc_imp (fun i hi => by simpa using List.all_eq_true.mp hv i hi) σ H Q q) D σ H q
/-- where a statement stands -/
structure XOk (ξ : XR) (ck : Ck) (C : Nat → Fun) (X : Cx) : Prop where
  po : PassesOwn (model X.prog X.w) X.A X.env X.xe
  st : X.stack = X.env :: X.outer
  fr : X.env.frame = some X.env.locals
  rz0 : ck.rz = false → ξ = none
  rz1 : ck.rz = true → ∃ Cc fI E k, Bad.Txt X.prog X.K X.mg ck.rx Cc fI ∧ Takes X (fun cls d _ H => E cls d H) ∧ Room k X.A ∧ ξ = some (wantX Cc E)
  tr : ∀ i name ar, (i, name, ar) ∈ ck.rzs → ∃ k Cc O f fd ps, Room k X.A ∧ FnOk X.prog X.w X.kw X.mg X.base (L2.CX X.prog X.w) k f fd ps (spX Cc X.kw ar (C i)) ∧ X.mg name = some (.ref f) ∧ PySem.W.keepIn X.kw (.ref f) = true ∧
    (∀ j ks, (i, j, ks) ∈ ck.kws → KBinds X.kw fd ps ks (gJ j) (gJ j)) ∧ Bad.Cls X.K X.mg ck.rx ck.h2 ck.h3 Cc ∧ X.mg ck.own = some (.ref O) ∧ PySem.W.exmOne X.K (.ref Cc) (.ref O) = some true
theorem sTry {ξ : XR} {ck : Ck} {X : Cx} (ok : OkE ck C X) (hsc : X.env.scope = ck.sc) (xo : XOk ξ ck C X) {t1 : String} {f : Nat} {as ks : Exs} {t2 : String} {st : Stmt} (h : chkTry ck t1 f as ks t2 st = true) : RS none X st (ex C fuel (.tryC t1 f as ks t2)) := by
  unfold chkTry at h
  split at h
  case h_2 => cases h
  simp only [Bool.and_eq_true, decide_eq_true_eq, Bool.not_eq_true'] at h
  obtain ⟨⟨⟨⟨⟨⟨⟨⟨⟨⟨⟨⟨⟨⟨⟨⟨⟨⟨⟨⟨⟨⟨⟨⟨⟨⟨⟨⟨⟨⟨⟨⟨⟨⟨⟨rfl, rfl⟩, rfl⟩, rfl⟩, rfl⟩, rfl⟩, rfl⟩, rfl⟩, rfl⟩, rfl⟩, rfl⟩, rfl⟩, rfl⟩, rfl⟩, rfl⟩, rfl⟩, g0⟩, g1⟩, g2⟩, g3⟩, n0⟩, n1⟩, n2⟩, n3⟩, gi⟩, ve⟩, le⟩, hN⟩, hrz⟩, nx⟩, gx⟩, hne⟩, has⟩, hks⟩, hso⟩, hkw⟩ := h
  obtain ⟨k, Cc, O, fa, fd, ps, hr, F, hm, hk, hb, T, hO, hex⟩ := xo.tr _ _ _ hrz
  exact rs_tryC ok xo.st xo.fr F hr (ok.gl _ gx) hm hk (hb _ _ hkw) has hks rfl rfl (fun z => by simp [z] at hne) hso rfl (okN nx).1 T hO hex (i := ck.N.length - 1) (by rw [ok.hN]; exact hN) ve (by rw [hsc]; exact le) (ok.gl _ gi) (ok.gl _ g0) (ok.gl _ g1) (ok.gl _ g2) (ok.gl _ g3) (okN n0).1 (okN n1).1 (okN n2).1 (okN n3).1
mutual
theorem sS {ξ : XR} {ck : Ck} {X : Cx} (ok : OkE ck C X) (hsc : X.env.scope = ck.sc) (xo : XOk ξ ck C X) : ∀ (s : S) (st : Stmt), chkS ck s st = true → RS ξ X st (ex C fuel s)
  | .set i e, st, h => by
    simp only [chkS] at h
    split at h
    case h_2 => cases h
    rename_i x px e' pos
    simp only [Bool.and_eq_true, decide_eq_true_eq, Bool.or_eq_true] at h
    obtain ⟨⟨⟨h1, h2⟩, h3⟩, h4⟩ := h
    have hN : X.N.Nodup := by rw [ok.hN]; exact ok.nd
    have hi : X.N[i]? = some x := by rw [ok.hN]; exact h1
    obtain ⟨l1, l2⟩ := ok.loc _ h2
    have hsw := fun l => swB_ok (x := x) (px := px) (l := l) ok.kind h4
    cases hs : swB X.env.scope x px e' with
    | false => exact rs_set hN hi l1 l2 (sE ok e e' h3).1 (by rw [hsw, hs])
    | true =>
      have h3' := h3
      cases e with
      | comp elt tg it cond own =>
        simp only [chk] at h3
        split at h3
        case h_2 => cases h3
        rename_i elt' tg' iter' ifs' sc' pos'
        simp only [Bool.and_eq_true, Bool.not_eq_true'] at h3
        obtain ⟨⟨⟨⟨⟨⟨⟨g1, g2⟩, g3⟩, g4⟩, g5⟩, g6⟩, g7⟩, g8⟩ := h3
        have hl : X.env.scope.names.lookup x = some .local := by
          simp only [swB, Bool.and_eq_true, beq_iff_eq] at hs
          exact hs.1.1
        exact rs_setLc ok hi hl (by rw [hsw, hs]) (sI ok it tg' iter' g1) g4 g2 g3 g6 (fun X' ok' _ => sT ok' tg tg' g5) (fun X' ok' _ => sC ok' cond ifs' g7) (fun X' ok' _ => (sE ok' elt elt' g8).1)
      | _ =>
        exfalso
        cases e' <;> first | (simp [swB] at hs; done) | skip
        all_goals (simp only [chk] at h3'; try split at h3')
        all_goals first | cases h3' | skip
        all_goals (rename_i f _ _ _ _; cases f <;> (simp only [chkF] at h3'; try split at h3') <;> cases h3')
  | .par2 i j a b, st, h => by
    simp only [chkS] at h
    split at h
    case h_2 => cases h
    simp only [Bool.and_eq_true, decide_eq_true_eq] at h
    obtain ⟨⟨⟨⟨⟨⟨⟨⟨⟨h1, h2⟩, h3⟩, h4⟩, h5⟩, h6⟩, h7⟩, h8⟩, h9⟩, h10⟩ := h
    exact rs_par2 ok.calm (by rw [ok.hN]; exact ok.nd) (by rw [ok.hN]; exact h1) (by rw [ok.hN]; exact h2) h3 (by rw [hsc]; exact h4) (by rw [hsc]; exact h5) (sE ok a _ h6).1 (sE ok b _ h7).1 h8 h9 (swp_ok ok.kind (by rw [hsc]; exact h10))
  | .par3 i j l a b c, st, h => by
    simp only [chkS] at h
    split at h
    case h_2 => cases h
    simp only [Bool.and_eq_true, decide_eq_true_eq] at h
    obtain ⟨⟨⟨⟨⟨⟨⟨⟨⟨⟨⟨⟨⟨⟨⟨h1, h2⟩, h3⟩, h4⟩, h5⟩, h6⟩, h7⟩, h8⟩, h9⟩, h10⟩, h11⟩, h12⟩, h13⟩, h14⟩, h15⟩, h16⟩ := h
    exact rs_par3 ok.calm (by rw [ok.hN]; exact ok.nd) (by rw [ok.hN]; exact h1) (by rw [ok.hN]; exact h2) (by rw [ok.hN]; exact h3) h4 h5 h6 (by rw [hsc]; exact h7) (by rw [hsc]; exact h8) (by rw [hsc]; exact h9) (sE ok a _ h10).1 (sE ok b _ h11).1 (sE ok c _ h12).1 h13 h14 h15 (swp_ok ok.kind (by rw [hsc]; exact h16))
  | .asg t e, st, h => by
    simp only [chkS] at h
    split at h
    case h_2 => cases h
    rename_i ts kt pt e' pos
    simp only [Bool.and_eq_true] at h
    obtain ⟨⟨⟨h1, h2⟩, h3⟩, h4⟩ := h
    refine rs_asg (sE ok e _ h1).1 (sT ok t _ h2) rfl (swaps_no h3 _ _ _) ?_
    cases e' with
    | Tuple vs k p => exact swp_ok ok.kind (by rw [hsc]; simpa using h4)
    | _ => exact sws_no rfl
  | .aug i op e, st, h => by
    simp only [chkS] at h
    split at h
    case h_2 => cases h
    simp only [Bool.and_eq_true, decide_eq_true_eq] at h
    obtain ⟨⟨⟨⟨h1, rfl⟩, h3⟩, h4⟩, h5⟩ := h
    obtain ⟨l1, l2⟩ := ok.loc _ h4
    exact rs_aug h1 (by rw [ok.hN]; exact ok.nd) (by rw [ok.hN]; exact h3) l1 l2 (sE ok e _ h5).1
  | .setIx o i e, st, h => by
    simp only [chkS] at h
    split at h
    case h_2 => cases h
    simp only [Bool.and_eq_true] at h
    obtain ⟨⟨⟨⟨h1, h2⟩, h3⟩, h4⟩, h5⟩ := h
    exact rs_setIx (sE ok e _ h1).1 (sE ok o _ h2).1 (sE ok i _ h3).1 h4 h5
  | .setD o i e, st, h => by
    simp only [chkS] at h
    split at h
    case h_2 => cases h
    simp only [Bool.and_eq_true] at h
    obtain ⟨⟨⟨⟨h1, h2⟩, h3⟩, h4⟩, h5⟩ := h
    rw [ex_setDm]
    exact rs_setD ok.room (sE ok e _ h1).1 (sE ok o _ h2).1 (sE ok i _ h3).1 h4 h5
  | .setI o i e, st, h => by
    simp only [chkS] at h
    split at h
    case h_2 => cases h
    simp only [Bool.and_eq_true] at h
    obtain ⟨⟨⟨⟨h1, h2⟩, h3⟩, h4⟩, h5⟩ := h
    exact rs_setI ok.room (sE ok e _ h1).1 (sE ok o _ h2).1 (sE ok i _ h3).1 h4 h5
  | .expr e, st, h => by
    simp only [chkS] at h
    split at h
    case h_2 => cases h
    simp only [Bool.and_eq_true] at h
    exact rs_expr h.1 (sE ok e _ h.2).1
  | .ret e, st, h => by
    simp only [chkS] at h
    split at h
    case h_2 => cases h
    simp only [Bool.and_eq_true, Bool.not_eq_true'] at h
    obtain rfl := xo.rz0 h.1
    exact rs_ret (sE ok e _ h.2).1
  | .retN, st, h => by
    simp only [chkS] at h
    split at h
    case h_2 => cases h
    exact rs_retN
  | .raise e, st, h => by
    simp only [chkS] at h
    split at h
    case h_2 => cases h
    simp only [Bool.and_eq_true, decide_eq_true_eq] at h
    obtain ⟨⟨⟨⟨⟨h0, rfl⟩, h1⟩, h2⟩, h3⟩, h4⟩ := h
    obtain ⟨Cc, fI, E, k, T, tk, hr, rfl⟩ := xo.rz1 h0
    exact rs_raise ok.calm T hr tk (sE ok e _ h4).1 h3 (ok.gl _ h1) (okN h2).1
  | .retV e, st, h => by
    simp only [chkS] at h
    split at h
    case h_2 => cases h
    simp only [Bool.and_eq_true] at h
    exact rs_retV (sE ok e _ h.2).1
  | .tryC t1 f as ks t2, st, h => by
    simp only [chkS, Bool.and_eq_true, Bool.not_eq_true'] at h
    obtain rfl := xo.rz0 h.1
    exact sTry ok hsc xo h.2
  | .ite c t e, st, h => by
    simp only [chkS] at h
    split at h
    case h_2 => cases h
    simp only [Bool.and_eq_true] at h
    exact rs_if ((sE ok c _ h.1.1.2).2 h.1.1.1) (sSs ok hsc xo t _ h.1.2) (sSs ok hsc xo e _ h.2)
  | .whl c b, st, h => by
    simp only [chkS] at h
    split at h
    case h_2 => cases h
    simp only [Bool.and_eq_true] at h
    exact rs_while xo.po ((sE ok c _ h.1.2).2 h.1.1) (sSs ok hsc xo b _ h.2)
  | .for_ t it b, st, h => by
    simp only [chkS] at h
    split at h
    case h_2 => cases h
    simp only [Bool.and_eq_true, Bool.not_eq_true'] at h
    obtain ⟨⟨⟨⟨h1, h2⟩, h3⟩, h4⟩, h5⟩ := h
    exact rs_for xo.po ok.calm (sI ok it _ _ h2) (sT ok t _ h1) (sSs ok hsc xo b _ h5) (fun x => folded_no h4 (by rename_i it' _ _; cases it' <;> first | rfl | simp [isSet] at h3) _ _)
  | .brk, st, h => by
    simp only [chkS] at h
    split at h
    case h_2 => cases h
    exact rs_brk
  | .cnt, st, h => by
    simp only [chkS] at h
    split at h
    case h_2 => cases h
    exact rs_cnt
  | .pass, st, h => by
    simp only [chkS] at h
    split at h
    case h_2 => cases h
    exact rs_pass
theorem sSs {ξ : XR} {ck : Ck} {X : Cx} (ok : OkE ck C X) (hsc : X.env.scope = ck.sc) (xo : XOk ξ ck C X) : ∀ (ss : Ss) (sts : List Stmt), chkSs ck ss sts = true → RSs ξ X sts (exs C fuel ss)
  | .nil, sts, h => by
    simp only [chkSs, List.isEmpty_iff] at h
    subst h
    exact rss_nil
  | .cons s ss, sts, h => by
    cases sts with
    | nil => simp [chkSs] at h
    | cons st sts =>
      simp only [chkSs, Bool.and_eq_true] at h
      exact rss_cons (sS ok hsc xo s st h.1) (sSs ok hsc xo ss sts h.2)
end
end
end PyD

/-! PyD11: defs: what the small language computes is what the text computes. -/
namespace PyD
open PySem PySem.Spec PyProof.Rows L2

def Df.NS (d : Df) : List Str := d.N.map Str.ofString
def Df.xS (d : Df) : Str := Str.ofString d.x
theorem Df.NSlen (d : Df) : d.NS.length = d.N.length := by simp [Df.NS]
def kwsOf (L : List Df) : List (Nat × Nat × List Str) := (L.mapIdx fun i d => d.kws.map fun p => (i, p.1, p.2.map Str.ofString)).flatten
def dflOf (L : List Df) : List (Nat × Nat × List D) := (L.mapIdx fun i d => d.dfl.map fun p => (i, p.1, p.2)).flatten
theorem kwsOf_mem {L : List Df} {i j : Nat} {ks : List Str} (h : (i, j, ks) ∈ kwsOf L) : ∃ d ks', L[i]? = some d ∧ (j, ks') ∈ d.kws ∧ ks = ks'.map Str.ofString := by
  unfold kwsOf at h
  obtain ⟨l, hl, hm⟩ := List.mem_flatten.mp h
  obtain ⟨n, hn, e⟩ := List.mem_mapIdx.mp hl
  subst e
  obtain ⟨p, hp, e⟩ := List.mem_map.mp hm
  cases e
  exact ⟨L[i], p.2, List.getElem?_eq_getElem hn, hp, rfl⟩
theorem dflOf_mem {L : List Df} {i j : Nat} {ds : List D} (h : (i, j, ds) ∈ dflOf L) : ∃ d, L[i]? = some d ∧ (j, ds) ∈ d.dfl := by
  unfold dflOf at h
  obtain ⟨l, hl, hm⟩ := List.mem_flatten.mp h
  obtain ⟨n, hn, e⟩ := List.mem_mapIdx.mp hl
  subst e
  obtain ⟨p, hp, e⟩ := List.mem_map.mp hm
  cases e
  exact ⟨L[i], List.getElem?_eq_getElem hn, hp⟩
/-- a def as it stands, whatever its defaults -/
def FunE (K : Kw) (x : Str) (st : Stmt) (f : Addr) (fd : FuncData) : Prop := ∃ dvs, FunD K x x (defArgs st) (defBody st) (defScope st) dvs [] f fd
theorem FunE.kp {K : Kw} {x : Str} {st : Stmt} {f : Addr} {fd : FuncData} (F : FunE K x st f fd) : PySem.W.keepIn K (.ref f) = true := let ⟨_, g⟩ := F; g.kp
theorem FunE.of {K : Kw} {x : Str} {st : Stmt} {f : Addr} {fd : FuncData} (F : L2.Fun K x x st f fd) : FunE K x st f fd := by
  obtain ⟨oc, od, kV, doc, pm, an, cdv, ct, osl, e, l, c⟩ := F.ex
  exact ⟨[], ⟨oc, od, .none, kV, doc, pm, an, cdv, ct, osl, e, l, c, .inl ⟨rfl, rfl⟩, .inl rfl⟩, F.kp⟩
/-- what calls of a def by keywords and with defaults lean on -/
structure More (K : Kw) (fd : FuncData) (ps : List Str) (d : Df) : Prop where
  kw : ∀ j ks, (j, ks) ∈ d.kws → KBinds K fd ps (ks.map Str.ofString) (gJ j) (gJ j)
  df : ∀ j ds, (j, ds) ∈ d.dfl → ∃ dvs dus, Binds K fd ps dus ∧ Vals dvs dus ∧ ∀ ρ H, DVs K ρ H ds dvs
/-- the defs that may be called as all are: not those that may raise -/
def tabOf (L : List Df) : List (Str × Nat) := L.map fun d => if d.rz then (("" : Str), 0) else (d.xS, d.ar)
def rzsOf (L : List Df) : List (Nat × Str × Nat) := (L.mapIdx fun i d => if d.rz then [(i, d.xS, d.ar)] else []).flatten
theorem rzsOf_mem {L : List Df} {i ar : Nat} {x : Str} (h : (i, x, ar) ∈ rzsOf L) : ∃ d, L[i]? = some d ∧ d.rz = true ∧ x = d.xS ∧ ar = d.ar := by
  unfold rzsOf at h
  obtain ⟨l, hl, hm⟩ := List.mem_flatten.mp h
  obtain ⟨n, hn, e⟩ := List.mem_mapIdx.mp hl
  subst e
  cases hz : L[n].rz with
  | false => simp [hz] at hm
  | true =>
    simp [hz] at hm
    obtain ⟨rfl, rfl, rfl⟩ := hm
    exact ⟨L[i], List.getElem?_eq_getElem hn, hz, rfl, rfl⟩
def ckOf (L : List Df) (cst : List (Str × D)) (d : Df) (sc : Scope) : Ck := { N := d.NS, sc := sc, tab := tabOf L, cst := cst, kws := kwsOf L, dfl := dflOf L, rz := d.rz, rzs := rzsOf L }
/-- what the text says of its exceptions -/
structure ExAll (P : Program) (K : PySem.W.Frag) (mg : Str → Option Value) : Prop where
  ex : ∃ Cc fI O, Bad.Txt P K mg "BadCode" Cc fI ∧ Bad.Cls K mg "BadCode" "Refused" "BadOctets" Cc ∧ mg "OwnError" = some (.ref O) ∧ PySem.W.exmOne K (.ref Cc) (.ref O) = some true
/-- the look at a def -/
def okDef (L : List Df) (cst : List (Str × D)) (d : Df) (st : Stmt) : Bool := chkSs (ckOf L cst d (defScope st)) d.b (defBody st)

section
variable {P : Program} {K : Kw} {mg : Str → Option Value} {base : Heap} {L : List Df} {fuel : Nat} {cst : List (Str × D)}
/-- what is known of a def of the text -/
structure DfOk (K : Kw) (mg : Str → Option Value) (L : List Df) (cst : List (Str × D)) (d : Df) : Prop where
  ex : ∃ st f fd ps, ps.length = d.ar ∧ FunE K d.xS st f fd ∧ FnScope d.NS ps (defScope st) ∧ okDef L cst d st = true ∧ mg d.xS = some (.ref f) ∧ Binds K fd ps [] ∧ More K fd ps d
structure TabOk (P : Program) (K : Kw) (mg : Str → Option Value) (L : List Df) (cst : List (Str × D)) : Prop where
  fns : ∀ (i : Nat) (d : Df), L[i]? = some d → DfOk K mg L cst d
  cst : ∀ x d, (x, d) ∈ cst → ∃ u v, mg x = some u ∧ RelV v u ∧ ∀ ρ H, DV K ρ H d v
  blt : ∀ x ∈ bltNames, mg x = none
  ex : (L.any fun d => d.rz) = true → ExAll P K mg
  rm : (L.all fun d => !(d.rz && d.m)) = true
theorem more_kw {i : Nat} {fd : FuncData} {ps : List Str} {d : Df} (hd : L[i]? = some d) (m : More K fd ps d) : ∀ j ks, (i, j, ks) ∈ kwsOf L → KBinds K fd ps ks (gJ j) (gJ j) := fun j ks h => by
  obtain ⟨d', ks', e1, e2, rfl⟩ := kwsOf_mem h
  rw [hd] at e1; cases e1
  exact m.kw j ks' e2
theorem more_df {i : Nat} {fd : FuncData} {ps : List Str} {d : Df} (hd : L[i]? = some d) (m : More K fd ps d) : ∀ j ds, (i, j, ds) ∈ dflOf L → ∃ dvs dus, Binds K fd ps dus ∧ Vals dvs dus ∧ ∀ ρ H, DVs K ρ H ds dvs := fun j ds h => by
  obtain ⟨d', e1, e2⟩ := dflOf_mem h
  rw [hd] at e1; cases e1
  exact m.df j ds e2
theorem startD {ρ : Rho} {H : Hp} {N : List Str} {ds : List D} {vs : List V} (q : DVs K ρ H ds vs) : RepS K ρ H (L2.start N vs) (ds.map some ++ List.replicate (N.length - ds.length) none) := by
  have hl := q.length
  refine ⟨by simp [L2.start, hl], fun i d h => ?_⟩
  by_cases hi : i < ds.length
  · rw [List.getElem?_append_left (by simpa using hi), List.getElem?_map] at h
    have hd : ds[i]? = some d := by
      cases z : ds[i]? with
      | none => simp [z] at h
      | some y => simp [z] at h; rw [h]
    obtain ⟨v, e, y⟩ := q.get hd
    refine ⟨v, ?_, y⟩
    unfold L2.start
    rw [List.getElem?_append_left (by simp; omega), List.getElem?_map, e]; rfl
  · rw [List.getElem?_append_right (by simp; omega)] at h
    have := (List.getElem?_eq_some_iff.mp h).2
    simp at this
/-- what is known of a def that is called as all are -/
abbrev CallOk (P : Program) (K : Kw) (mg : Str → Option Value) (base : Heap) (L : List Df) (k : Nat) (C : Nat → Fun) (i : Nat) (name : Str) (ar : Nat) : Prop :=
  ∃ f fd ps, FnOk P K.w K mg base CX0 k f fd ps (spD K ar (C i)) ∧ mg name = some (.ref f) ∧ PySem.W.keepIn K (.ref f) = true ∧ Binds K fd ps [] ∧ (∀ j ks, (i, j, ks) ∈ kwsOf L → KBinds K fd ps ks (gJ j) (gJ j)) ∧ (∀ j ds, (i, j, ds) ∈ dflOf L → ∃ dvs dus, Binds K fd ps dus ∧ Vals dvs dus ∧ ∀ ρ H, DVs K ρ H ds dvs)
/-- .. of one that may raise -/
abbrev RaiseOk (P : Program) (K : Kw) (mg : Str → Option Value) (base : Heap) (L : List Df) (k : Nat) (C : Nat → Fun) (Cc : Addr) (i : Nat) (name : Str) (ar : Nat) : Prop :=
  ∃ f fd ps, FnOk P K.w K mg base (L2.CX P K.w) k f fd ps (spX Cc K ar (C i)) ∧ mg name = some (.ref f) ∧ PySem.W.keepIn K (.ref f) = true ∧ (∀ j ks, (i, j, ks) ∈ kwsOf L → KBinds K fd ps ks (gJ j) (gJ j))
theorem rzs_any {i ar : Nat} {x : Str} (h : (i, x, ar) ∈ rzsOf L) : (L.any fun d => d.rz) = true := by
  obtain ⟨d, hd, hz, _⟩ := rzsOf_mem h
  exact List.any_eq_true.mpr ⟨d, List.mem_of_getElem? hd, hz⟩
theorem tr_of {X : Cx} {k : Nat} {C : Nat → Fun} {ck : Ck} (T : TabOk P K mg L cst) (hX : X.prog = P ∧ X.kw = K ∧ X.mg = mg ∧ X.base = base) (hr : Room k X.A) (c1 : ck.rzs = rzsOf L) (c2 : ck.kws = kwsOf L) (c3 : ck.rx = "BadCode" ∧ ck.h2 = "Refused" ∧ ck.h3 = "BadOctets" ∧ ck.own = "OwnError")
    (hx : ∀ (i : Nat) (name : Str) (ar : Nat), (i, name, ar) ∈ rzsOf L → ∀ Cc, mg "BadCode" = some (.ref Cc) → RaiseOk P K mg base L k C Cc i name ar) :
    ∀ i name ar, (i, name, ar) ∈ ck.rzs → ∃ k Cc O f fd ps, Room k X.A ∧ FnOk X.prog X.w X.kw X.mg X.base (L2.CX X.prog X.w) k f fd ps (spX Cc X.kw ar (C i)) ∧ X.mg name = some (.ref f) ∧ PySem.W.keepIn X.kw (.ref f) = true ∧
    (∀ j ks, (i, j, ks) ∈ ck.kws → KBinds X.kw fd ps ks (gJ j) (gJ j)) ∧ Bad.Cls X.K X.mg ck.rx ck.h2 ck.h3 Cc ∧ X.mg ck.own = some (.ref O) ∧ PySem.W.exmOne X.K (.ref Cc) (.ref O) = some true := by
  intro i name ar h
  rw [c1] at h
  obtain ⟨rfl, e2, rfl, rfl⟩ := hX
  obtain ⟨d1, d2, d3, d4⟩ := c3
  subst e2
  obtain ⟨Cc, fI, O, t1, t2, t3, t4⟩ := (T.ex (rzs_any h)).ex
  obtain ⟨f, fd, ps, F, hm, hk, hb⟩ := hx i name ar h Cc t1.gC
  exact ⟨k, Cc, O, f, fd, ps, hr, F, hm, hk, fun j ks z => hb j ks (by rw [c2] at z; exact z), by rw [d1, d2, d3]; exact t2, by rw [d4]; exact t3, t4⟩
theorem def_ok {k : Nat} {C : Nat → Fun} {d : Df} {st : Stmt} {f : Addr} {fd : FuncData} {ps : List Str} (F : FunE K d.xS st f fd) (S : FnScope d.NS ps (defScope st)) (hps : ps.length = d.ar) (hc : okDef L cst d st = true) (T : TabOk P K mg L cst) (hz : d.rz = false)
    (hf : ∀ (i : Nat) (name : Str) (ar : Nat), (tabOf L)[i]? = some (name, ar) → (name == ("" : Str)) = false → CallOk P K mg base L k C i name ar)
    (hx : ∀ (i : Nat) (name : Str) (ar : Nat), (i, name, ar) ∈ rzsOf L → ∀ Cc, mg "BadCode" = some (.ref Cc) → RaiseOk P K mg base L k C Cc i name ar) :
    FnOk P K.w K mg base CX0 (k + 1) f fd ps (spD K d.ar (run C d.m fuel d.N.length d.b)) := by
  obtain ⟨dvs, F⟩ := F
  refine F.ok S (fun vs H Q E h => h.1.trans hps.symm) (fun cdv A outer s H vs Q E hr h => ?_)
  obtain ⟨_, ρ, h, ds, d0, h', rh, q, e, o⟩ := h
  refine ⟨tS none K (exs C fuel d.b), ?_, ?_⟩
  · refine PSs.nox ?_
    refine sSs (X := (cxOf CX0 P K.w K mg base d.NS d.xS (defScope st) f cdv A outer s H E).nox) (ck := ckOf L cst d (defScope st)) ⟨rfl, S.nd, fun x hx => ?_, fun x hx => ?_, fun x hx => ?_, fun x hx => hx, S.kind, rfl, ⟨k, hr, hf⟩, T.cst, T.blt⟩ rfl
      ⟨PassesOwn.never, rfl, rfl, fun _ => rfl, fun z => (by have z : d.rz = true := z; rw [hz] at z; cases z), tr_of T ⟨rfl, rfl, rfl, rfl⟩ hr rfl rfl ⟨rfl, rfl, rfl, rfl⟩ hx⟩ d.b (defBody st) hc
    · unfold Ck.vis at hx
      show (defScope st).names.lookup x = _ ∨ (defScope st).names.lookup x = _ ∨ (defScope st).names.lookup x = _
      have hx : (match (defScope st).names.lookup x with | some .local => true | some .cell => true | some .free => true | _ => false) = true := hx
      split at hx <;> simp_all
    · have hx : (match (defScope st).names.lookup x with | some .globalImplicit => true | _ => false) = true := hx
      show (defScope st).names.lookup x = _
      split at hx <;> simp_all
    · have hx : (match (defScope st).names.lookup x with | some .local => true | some .cell => true | _ => false) = true := hx
      show ((defScope st).names.lookup x = _ ∨ (defScope st).names.lookup x = _) ∧ _
      refine ⟨?_, .inl rfl⟩
      split at hx <;> simp_all
  · unfold run at e
    cases ee : exs C fuel d.b (ds.map some ++ List.replicate (d.N.length - ds.length) none) h with
    | none => simp [ee] at e
    | some p =>
      obtain ⟨fl, σ1, h1⟩ := p
      simp only [ee, Option.bind_some] at e
      refine ⟨ρ, _, h, fl, σ1, h1, by have := startD (N := d.NS) q; rw [d.NSlen] at this; exact this, rh, ee, fun σ' H' ρ' ex rs r1 => ?_⟩
      cases fl with
      | nx => exact fin_ok rh e o _ H' ρ' ex r1 DV.non'
      | rt d2 => exact EndD.of (.inl rfl) fun v qv => fin_ok rh e o v H' ρ' ex r1 qv
      | bk => simp at e
      | ct => simp at e
theorem mapR_ex {g : Nat → Option D} (hg : ∀ k d, g k = some d → ∃ xs, d = .lst xs) {d d0 : D} (h : mapR g d = some d0) : exOf d0 = exOf d := by
  cases d with
  | rol xs =>
    simp only [mapR] at h
    cases q : mapRs g xs with
    | none => simp [q] at h
    | some ys =>
      simp only [q, Option.map_some, Option.some.injEq] at h
      subst h
      match xs, q with
      | [], q => simp [mapRs] at q; subst q; rfl
      | [x], q =>
        simp only [mapRs] at q
        cases qx : mapR g x with
        | none => simp [qx] at q
        | some y =>
          simp [qx] at q
          subst q
          cases x with
          | int i => simp [mapR] at qx; subst qx; rfl
          | non => simp [mapR] at qx; subst qx; rfl
          | bl b => simp [mapR] at qx; subst qx; rfl
          | str b => simp [mapR] at qx; subst qx; rfl
          | fn b => simp [mapR] at qx
          | ref k =>
            obtain ⟨zs, rfl⟩ := hg k y qx
            rfl
          | tup zs =>
            simp only [mapR] at qx
            cases qz : mapRs g zs with
            | none => simp [qz] at qx
            | some w => simp [qz] at qx; subst qx; rfl
          | lst zs =>
            simp only [mapR] at qx
            cases qz : mapRs g zs with
            | none => simp [qz] at qx
            | some w => simp [qz] at qx; subst qx; rfl
          | rol zs =>
            simp only [mapR] at qx
            cases qz : mapRs g zs with
            | none => simp [qz] at qx
            | some w => simp [qz] at qx; subst qx; rfl
      | x :: y :: r, q =>
        simp only [mapRs] at q
        cases qx : mapR g x with
        | none => simp [qx] at q
        | some a =>
          cases qy : mapR g y with
          | none => simp [qx, qy] at q
          | some b =>
            cases qr : mapRs g r with
            | none => simp [qx, qy, qr] at q
            | some c => simp [qx, qy, qr] at q; subst q; clear qx qy; cases a <;> cases x <;> rfl
  | ref k =>
    simp only [mapR] at h
    obtain ⟨zs, rfl⟩ := hg k d0 h
    rfl
  | tup xs =>
    simp only [mapR] at h
    cases q : mapRs g xs with
    | none => simp [q] at h
    | some w => simp [q] at h; subst h; rfl
  | lst xs =>
    simp only [mapR] at h
    cases q : mapRs g xs with
    | none => simp [q] at h
    | some w => simp [q] at h; subst h; rfl
  | non => simp [mapR] at h; subst h; rfl
  | bl b => simp [mapR] at h; subst h; rfl
  | int b => simp [mapR] at h; subst h; rfl
  | str b => simp [mapR] at h; subst h; rfl
  | fn b => simp [mapR] at h
theorem fz_lst {h : AH} {ok : Nat → Bool} : ∀ (n k : Nat) (d : D), fzR h ok n k = some d → ∃ xs, d = .lst xs
  | 0, k, d, e => by simp [fzR] at e
  | n + 1, k, d, e => by
    simp only [fzR] at e
    split at e
    case isFalse => cases e
    split at e
    case h_2 => cases e
    rename_i ds _
    cases q : mapRs (fzR h ok n) ds with
    | none => simp [q] at e
    | some w => simp [q] at e; exact ⟨w, e.symm⟩
/-- what goes out of a def that may raise -/
theorem fin_ex {n : Nat} {d d0 : D} {h1 h' : AH} (e : fin false n d h1 = some (d0, h')) : exOf d0 = exOf d ∧ fin false n (.int 0) h1 = some (.int 0, h') := by
  unfold fin at e ⊢
  split at e
  case isFalse => cases e
  rename_i hc
  rw [if_pos hc]
  simp only [Bool.false_eq_true, if_false] at e ⊢
  cases q : mapR (fzR h1 (fun j => decide (n ≤ j)) 6) d with
  | none => simp [q] at e
  | some y =>
    simp [q] at e
    obtain ⟨rfl, rfl⟩ := e
    exact ⟨mapR_ex (fun k d z => fz_lst _ _ _ z) q, rfl⟩
theorem def_okX {k : Nat} {C : Nat → Fun} {d : Df} {st : Stmt} {f Cc : Addr} {fd : FuncData} {ps : List Str} (F : FunE K d.xS st f fd) (S : FnScope d.NS ps (defScope st)) (hps : ps.length = d.ar) (hc : okDef L cst d st = true) (T : TabOk P K mg L cst) (hz : d.rz = true) (hm : d.m = false) (hany : (L.any fun d => d.rz) = true) (hCc : mg "BadCode" = some (.ref Cc))
    (hf : ∀ (i : Nat) (name : Str) (ar : Nat), (tabOf L)[i]? = some (name, ar) → (name == ("" : Str)) = false → CallOk P K mg base L k C i name ar)
    (hx : ∀ (i : Nat) (name : Str) (ar : Nat), (i, name, ar) ∈ rzsOf L → ∀ Cc, mg "BadCode" = some (.ref Cc) → RaiseOk P K mg base L k C Cc i name ar) :
    FnOk P K.w K mg base (L2.CX P K.w) (k + 1) f fd ps (spX Cc K d.ar (run C d.m fuel d.N.length d.b)) := by
  obtain ⟨dvs, F⟩ := F
  refine F.ok S (fun vs H Q E h => h.1.trans hps.symm) (fun cdv A outer s H vs Q E hr h => ?_)
  obtain ⟨_, ρ, h, ds, d0, h', rh, q, e, o⟩ := h
  obtain ⟨Cc', fI, O, t1, t2, t3, t4⟩ := (T.ex hany).ex
  obtain rfl : Cc' = Cc := by
    have z := t1.gC.symm.trans hCc
    cases z; rfl
  refine ⟨tS (some (wantX Cc' E)) K (exs C fuel d.b), ?_, ?_⟩
  · refine sSs (X := (cxOf (L2.CX P K.w) P K.w K mg base d.NS d.xS (defScope st) f cdv A outer s H E)) (ck := ckOf L cst d (defScope st)) ⟨rfl, S.nd, fun x hx => ?_, fun x hx => ?_, fun x hx => ?_, fun x hx => hx, S.kind, rfl, ⟨k, hr, hf⟩, T.cst, T.blt⟩ rfl
      ⟨passes_of rfl, rfl, rfl, fun z => (by have z : d.rz = false := z; rw [hz] at z; cases z), fun _ => ⟨Cc', fI, E, k, t1, takes_of rfl rfl rfl rfl, hr, rfl⟩, tr_of T ⟨rfl, rfl, rfl, rfl⟩ hr rfl rfl ⟨rfl, rfl, rfl, rfl⟩ hx⟩ d.b (defBody st) hc
    · unfold Ck.vis at hx
      show (defScope st).names.lookup x = _ ∨ (defScope st).names.lookup x = _ ∨ (defScope st).names.lookup x = _
      have hx : (match (defScope st).names.lookup x with | some .local => true | some .cell => true | some .free => true | _ => false) = true := hx
      split at hx <;> simp_all
    · have hx : (match (defScope st).names.lookup x with | some .globalImplicit => true | _ => false) = true := hx
      show (defScope st).names.lookup x = _
      split at hx <;> simp_all
    · have hx : (match (defScope st).names.lookup x with | some .local => true | some .cell => true | _ => false) = true := hx
      show ((defScope st).names.lookup x = _ ∨ (defScope st).names.lookup x = _) ∧ _
      refine ⟨?_, .inl rfl⟩
      split at hx <;> simp_all
  · unfold run at e
    rw [hm] at e
    cases ee : exs C fuel d.b (ds.map some ++ List.replicate (d.N.length - ds.length) none) h with
    | none => simp [ee] at e
    | some p =>
      obtain ⟨fl, σ1, h1⟩ := p
      simp only [ee, Option.bind_some] at e
      refine ⟨ρ, _, h, fl, σ1, h1, by have := startD (N := d.NS) q; rw [d.NSlen] at this; exact this, rh, ee, fun σ' H' ρ' ex rs r1 => ?_⟩
      cases fl with
      | nx =>
        obtain ⟨f1, _⟩ := fin_ex e
        rw [f1] at o
        exact fin_ok rh e o _ H' ρ' ex r1 DV.non'
      | rt d2 =>
        obtain ⟨f1, f2⟩ := fin_ex e
        rw [f1] at o
        cases hd : exOf d2 with
        | none =>
          rw [hd] at o
          exact EndD.of (.inr hd) fun v qv => fin_ok rh e o v H' ρ' ex r1 qv
        | some n =>
          rw [hd] at o
          have g : Out K ρ H (.int 0) h1 (fun _ H' => wantX Cc' E n H') := fin_ok rh f2 (fun v H2 ρ2 ex2 r2 _ => fun dx hdx => o H2 ρ2 ex2 r2 dx hdx)
          have w : wantX Cc' E n H' := g (.int 0) H' ρ' ex r1 (DV.int' 0)
          show EndR (some (wantX Cc' E)) K _ d2 ρ' H'
          unfold EndR
          simp only [hd]
          exact w
      | bk => simp at e
      | ct => simp at e
theorem tabOf_at {i ar : Nat} {name : Str} (h : (tabOf L)[i]? = some (name, ar)) (hn : (name == ("" : Str)) = false) : ∃ d, L[i]? = some d ∧ d.rz = false ∧ name = d.xS ∧ ar = d.ar := by
  unfold tabOf at h
  rw [List.getElem?_map] at h
  cases z : L[i]? with
  | none => simp [z] at h
  | some d =>
    simp only [z, Option.map_some, Option.some.injEq] at h
    cases hz : d.rz with
    | true =>
      rw [if_pos hz] at h
      cases h
      simp at hn
    | false =>
      rw [if_neg (by rw [hz]; decide)] at h
      cases h
      exact ⟨d, rfl, hz, rfl, rfl⟩
theorem rm_at {d : Df} {i : Nat} (T : TabOk P K mg L cst) (hd : L[i]? = some d) (hz : d.rz = true) : d.m = false := by
  have := List.all_eq_true.mp T.rm d (List.mem_of_getElem? hd)
  rw [hz] at this
  simpa using this
/-- each def keeps its promise -/
theorem tab_ok (T : TabOk P K mg L cst) : ∀ (k i : Nat) (d : Df), L[i]? = some d →
    (d.rz = false → ∃ f fd ps, ps.length = d.ar ∧ FnOk P K.w K mg base CX0 k f fd ps (spD K d.ar (tabF L fuel k i)) ∧ mg d.xS = some (.ref f) ∧ PySem.W.keepIn K (.ref f) = true ∧ Binds K fd ps [] ∧ More K fd ps d) ∧
    (d.rz = true → ∀ Cc, mg "BadCode" = some (.ref Cc) → ∃ f fd ps, ps.length = d.ar ∧ FnOk P K.w K mg base (L2.CX P K.w) k f fd ps (spX Cc K d.ar (tabF L fuel k i)) ∧ mg d.xS = some (.ref f) ∧ PySem.W.keepIn K (.ref f) = true ∧ Binds K fd ps [] ∧ More K fd ps d)
  | 0, i, d, hd => by
    obtain ⟨st, f, fd, ps, hps, F, S, hc, hm, hb, hmo⟩ := (T.fns i d hd).ex
    refine ⟨fun _ => ⟨f, fd, ps, hps, ⟨fun vs H Q E h => h.1.trans hps.symm, fun A outer s H args us vs Q E hr he hb hv hs => ?_⟩, hm, F.kp, hb, hmo⟩, fun _ Cc _ => ⟨f, fd, ps, hps, ⟨fun vs H Q E h => h.1.trans hps.symm, fun A outer s H args us vs Q E hr he hb hv hs => ?_⟩, hm, F.kp, hb, hmo⟩⟩
    · obtain ⟨_, ρ, h, ds, d0, h', rh, q, e, o⟩ := hs
      simp [tabF] at e
    · obtain ⟨_, ρ, h, ds, d0, h', rh, q, e, o⟩ := hs
      simp [tabF] at e
  | k + 1, i, d, hd => by
    obtain ⟨st, f, fd, ps, hps, F, S, hc, hm, hb, hmo⟩ := (T.fns i d hd).ex
    have e : tabF L fuel (k + 1) i = run (tabF L fuel k) d.m fuel d.N.length d.b := by
      show (match L[i]? with | some d => run (tabF L fuel k) d.m fuel d.N.length d.b | none => fun _ _ => none) = _
      rw [hd]
    have hf : ∀ (i : Nat) (name : Str) (ar : Nat), (tabOf L)[i]? = some (name, ar) → (name == ("" : Str)) = false → CallOk P K mg base L k (tabF L fuel k) i name ar := fun j name ar hj hn => by
      obtain ⟨d2, z, hz, rfl, rfl⟩ := tabOf_at hj hn
      obtain ⟨f2, fd2, ps2, _, g1, g2, g3, g4, g5⟩ := (tab_ok T k j d2 z).1 hz
      exact ⟨f2, fd2, ps2, g1, g2, g3, g4, more_kw z g5, more_df z g5⟩
    have hx : ∀ (i : Nat) (name : Str) (ar : Nat), (i, name, ar) ∈ rzsOf L → ∀ Cc, mg "BadCode" = some (.ref Cc) → RaiseOk P K mg base L k (tabF L fuel k) Cc i name ar := fun j name ar hj Cc hCc => by
      obtain ⟨d2, z, hz, rfl, rfl⟩ := rzsOf_mem hj
      obtain ⟨f2, fd2, ps2, _, g1, g2, g3, g4, g5⟩ := (tab_ok T k j d2 z).2 hz Cc hCc
      exact ⟨f2, fd2, ps2, g1, g2, g3, more_kw z g5⟩
    refine ⟨fun hz => ⟨f, fd, ps, hps, ?_, hm, F.kp, hb, hmo⟩, fun hz Cc hCc => ⟨f, fd, ps, hps, ?_, hm, F.kp, hb, hmo⟩⟩
    · rw [e]
      exact def_ok F S hps hc T hz hf hx
    · rw [e]
      exact def_okX F S hps hc T hz (rm_at T hd hz) (List.any_eq_true.mpr ⟨d, List.mem_of_getElem? hd, hz⟩) hCc hf hx
/-- the law's promise, from what it computes -/
def spLaw (n : Nat) (K : PySem.W.Frag) : Sp := fun vs H Q _ => ∃ (a : Addr) (ns : List Int), vs = [.ref a] ∧ SqL K H a (ns.map V.int) ∧ ns.length ≤ n ∧ ∀ v H', v = .bl true → Q v H'
theorem rol_of {H : Hp} {a : Addr} {ns : List Int} (h : SqL K H a (ns.map V.int)) : DV K ⟨[], []⟩ H (.rol (ns.map .int)) (.ref a) := by
  simp only [DV]
  refine ⟨a, ns.map V.int, rfl, ?_, DVs.of_ints ns⟩
  rcases h with h | h
  · exact .inl ⟨h, fun m => m.elim (fun m => by cases m) fun m => by cases m⟩
  · exact .inr h
theorem law_ok {k n i : Nat} {d : Df} (T : TabOk P K mg L cst) (hz : d.rz = false) (hd : L[i]? = some d) (har : d.ar = 1) (hx : d.xS = ("law" : Str)) {f : Addr} (hm : mg ("law" : Str) = some (.ref f))
    (h : ∀ ns : List Int, ns.length ≤ n → ∃ h', tabF L fuel k i [.rol (ns.map .int)] [] = some (.bl true, h')) :
    ∃ fd ps, ps.length = 1 ∧ FnOk P K.w K mg base CX0 k f fd ps (spLaw n K) ∧ Binds K fd ps [] := by
  obtain ⟨f2, fd, ps, hl, F, hm2, _, hb, _⟩ := (tab_ok (P := P) (base := base) (fuel := fuel) T k i d hd).1 hz
  rw [hx] at hm2
  rw [hm] at hm2
  cases hm2
  rw [har] at hl F
  refine ⟨fd, ps, hl, F.imp fun vs H Q E hs => ?_, hb⟩
  obtain ⟨a, ns, rfl, hS, hlen, q⟩ := hs
  obtain ⟨h', e⟩ := h ns hlen
  exact ⟨rfl, ⟨[], []⟩, [], [.rol (ns.map .int)], .bl true, h', ⟨rfl, List.nodup_nil, fun a m => (by cases m), fun n a o z => (by simp at z)⟩, DVs.one (rol_of hS), e, fun v H' ρ' _ _ q1 => q v H' q1⟩
end
end PyD
namespace PyD
open PySem PySem.Spec PyProof.Rows L2
section
variable {K : Kw} {mg : Str → Option Value} {L : List Df} {cst : List (Str × D)}
theorem fns_nil {T : List Df} : ∀ (i : Nat) (d : Df), ([] : List Df)[i]? = some d → DfOk K mg T cst d := fun i d h => by simp at h
theorem fns_cons {T l : List Df} {d : Df} (h : DfOk K mg T cst d) (r : ∀ (i : Nat) (d : Df), l[i]? = some d → DfOk K mg T cst d) : ∀ (i : Nat) (d' : Df), (d :: l)[i]? = some d' → DfOk K mg T cst d'
  | 0, d', e => by simp at e; subst e; exact h
  | i + 1, d', e => r i d' (by simpa using e)
theorem DfOk.mk' {d : Df} {st : Stmt} {f : Addr} {fd : FuncData} {ps : List Str} (hl : ps.length = d.ar) (F : FunE K d.xS st f fd) (S : FnScope d.NS ps (defScope st)) (hc : okDef L cst d st = true) (hm : mg d.xS = some (.ref f)) (hb : Binds K fd ps []) (hmo : More K fd ps d) : DfOk K mg L cst d :=
  ⟨⟨st, f, fd, ps, hl, F, S, hc, hm, hb, hmo⟩⟩
theorem More.none {fd : FuncData} {ps : List Str} {d : Df} (h1 : d.kws = []) (h2 : d.dfl = []) : More K fd ps d := ⟨fun j ks h => (by rw [h1] at h; cases h), fun j ds h => (by rw [h2] at h; cases h)⟩
abbrev CstOk (K : Kw) (mg : Str → Option Value) (x : Str) (d : D) : Prop := ∃ u v, mg x = some u ∧ RelV v u ∧ ∀ ρ H, DV K ρ H d v
theorem cst_nil : ∀ (x : Str) (d : D), (x, d) ∈ ([] : List (Str × D)) → CstOk K mg x d := fun x d h => by simp at h
theorem cst_cons {l : List (Str × D)} {x0 : Str} {d0 : D} (h : CstOk K mg x0 d0) (r : ∀ (x : Str) (d : D), (x, d) ∈ l → CstOk K mg x d) : ∀ (x : Str) (d : D), (x, d) ∈ (x0, d0) :: l → CstOk K mg x d := fun x d m => by
  rcases List.mem_cons.mp m with z | z
  · cases z; exact h
  · exact r x d z
/-- a value of the text's top that stays -/
abbrev KD (K : Kw) (d : D) (v : V) : Prop := ∀ ρ H, DV K ρ H d v
abbrev KDs (K : Kw) (ds : List D) (vs : List V) : Prop := ∀ ρ H, DVs K ρ H ds vs
theorem KDs.nil : KDs K [] [] := fun _ _ => DVs.nil
theorem KDs.cons {d : D} {v : V} {ds : List D} {vs : List V} (h : KD K d v) (g : KDs K ds vs) : KDs K (d :: ds) (v :: vs) := fun ρ H => DVs.cons (h ρ H) (g ρ H)
theorem KD.tup {a : Addr} {od : Option Addr} {its : Array Value} {n : Nat} {sl : Array (Option Value)} {ds : List D} {vs : List V} (l : K.k.lookup a = some ⟨.type "tuple", od, .seq its n, sl⟩) (hs : its.size ≤ sizeLine) (hv : Vals vs its.toList) (hd : KDs K ds vs) : KD K (.tup ds) (.ref a) := fun ρ H => by
  simp only [DV]
  exact ⟨a, vs, rfl, .inr ⟨_, its, n, l, rfl, rfl, hs, hv⟩, hd ρ H⟩
theorem KD.fn {x : String} {f : Addr} (h : PySem.W.nsIn K.k mainGlobals (Str.ofString x) = some (some (.ref f))) : KD K (.fn x) (.ref f) := fun _ _ => by simp only [DV]; exact ⟨f, rfl, h⟩
theorem KD.int (i : Int) : KD K (.int i) (.int i) := fun _ _ => DV.int' _
theorem KD.str (s : String) : KD K (.str s) (.str (Str.ofString s)) := fun _ _ => DV.str' _
theorem KD.bl (b : Bool) : KD K (.bl b) (.bl b) := fun _ _ => DV.bl' _
theorem KD.non : KD K .non .non := fun _ _ => DV.non'
theorem CstOk.mk' {x : Str} {d : D} {u : Value} {v : V} (h : mg x = some u) (r : RelV v u) (k : KD K d v) : CstOk K mg x d := ⟨u, v, h, r, k⟩
end
end PyD
namespace PyD
open PySem PySem.Spec PyProof.Rows L2
theorem law_fn {P : Program} {K : Kw} {mg : Str → Option Value} {base : Heap} {L : List Df} {fuel : Nat} {cst : List (Str × D)} {k n i : Nat} {d : Df} {st : Stmt} {f : Addr} {fd : FuncData} {ps : List Str} (T : TabOk P K mg L cst) (hz : d.rz = false) (hd : L[i]? = some d)
    (F : FunE K d.xS st f fd) (S : FnScope d.NS ps (defScope st)) (hps : ps.length = d.ar) (har : d.ar = 1) (hc : okDef L cst d st = true)
    (h : ∀ ns : List Int, ns.length ≤ n → ∃ h', tabF L fuel (k + 1) i [.rol (ns.map .int)] [] = some (.bl true, h')) : FnOk P K.w K mg base CX0 (k + 1) f fd ps (spLaw n K) := by
  have e : tabF L fuel (k + 1) i = run (tabF L fuel k) d.m fuel d.N.length d.b := by
    show (match L[i]? with | some d => run (tabF L fuel k) d.m fuel d.N.length d.b | none => fun _ _ => none) = _
    rw [hd]
  rw [e] at h
  have G : FnOk P K.w K mg base CX0 (k + 1) f fd ps (spD K d.ar (run (tabF L fuel k) d.m fuel d.N.length d.b)) := def_ok F S hps hc T hz
    (fun j name ar hj hn => by
      obtain ⟨d2, z, hz, rfl, rfl⟩ := tabOf_at hj hn
      obtain ⟨f2, fd2, ps2, _, g1, g2, g3, g4, g5⟩ := (tab_ok (P := P) (base := base) (fuel := fuel) T k j d2 z).1 hz
      exact ⟨f2, fd2, ps2, g1, g2, g3, g4, more_kw z g5, more_df z g5⟩)
    (fun j name ar hj Cc hCc => by
      obtain ⟨d2, z, hz, rfl, rfl⟩ := rzsOf_mem hj
      obtain ⟨f2, fd2, ps2, _, g1, g2, g3, g4, g5⟩ := (tab_ok (P := P) (base := base) (fuel := fuel) T k j d2 z).2 hz Cc hCc
      exact ⟨f2, fd2, ps2, g1, g2, g3, more_kw z g5⟩)
  rw [har] at G
  refine G.imp fun vs H Q E hs => ?_
  obtain ⟨a, ns, rfl, hS, hlen, q⟩ := hs
  obtain ⟨h', e⟩ := h ns hlen
  exact ⟨rfl, ⟨[], []⟩, [], [.rol (ns.map .int)], .bl true, h', ⟨rfl, List.nodup_nil, fun a m => (by cases m), fun n a o z => (by simp at z)⟩, DVs.one (rol_of hS), e, fun v H' ρ' _ _ q1 => q v H' q1⟩
end PyD
namespace PyD
open PySem PySem.Spec PyProof.Rows L2
theorem kb_of {K : Kw} {fd : FuncData} {ps ks : List Str} {j : Nat} (h : ∀ us ws : List Value, us.length = j → ws.length = ks.length → bindArgs fd ⟨us, ks.zip ws⟩ = pure (ps.zip (us ++ ws))) (hl : j + ks.length = ps.length) (h0 : 0 < ps.length) : KBinds K fd ps ks (gJ j) (gJ j) where
  to := fun s us ws _ e => by
    unfold gJ at e ⊢
    split at e
    · rename_i hj
      rw [if_pos hj]
      rw [List.length_append] at e
      exact .of_eq (h us ws hj (by omega))
    · simp at e; omega
  rel := gJ_rel
/-- a def with defaults -/
theorem fund_mk {K : Kw} {x : Str} {st : Stmt} {f T : Addr} {oc kV doc pm cdv ct ot : Value} {od an odT : Option Addr} {osl slT : Array (Option Value)} {ta : Array Value} {n : Nat} {dvs : List V}
    (l : K.k.lookup f = some ⟨oc, od, .func (PySem.W.fnOf x x (defArgs st) (defBody st) (defScope st) (.ref T) kV doc pm an cdv ct), osl⟩) (c : PySem.W.codeIn K cdv x = true) (k : PySem.W.keepIn K (.ref f) = true)
    (t : K.k.lookup T = some ⟨ot, odT, .seq ta n, slT⟩) (v : Vals dvs ta.toList) (ne : dvs ≠ []) : FunD K x x (defArgs st) (defBody st) (defScope st) dvs [] f (PySem.W.fnOf x x (defArgs st) (defBody st) (defScope st) (.ref T) kV doc pm an cdv ct) :=
  ⟨⟨oc, od, .ref T, kV, doc, pm, an, cdv, ct, osl, rfl, l, c, .inr ⟨ne, T, _, ta.toList, n, rfl, t, by simp, v⟩, .inl rfl⟩, k⟩
/-- all is given: no default is asked for -/
theorem binds_all {K : Kw} {x : Str} {st : Stmt} {f : Addr} {fd : FuncData} {dvs : List V} {ps : List Str} (F : FunD K x x (defArgs st) (defBody st) (defScope st) dvs [] f fd) (hd : dvs ≠ [])
    (h : ∀ (T : Addr) (kV doc pm : Value) (an : Option Addr) (cdv ct : Value) (us its : List Value), us.length = ps.length → its.length = dvs.length →
      ∃ k, bindArgs (PySem.W.fnOf x x (defArgs st) (defBody st) (defScope st) (.ref T) kV doc pm an cdv ct) ⟨us, []⟩ = seqItems? (.ref T) >>= k ∧ k (some its.toArray) = pure (ps.zip (us ++ its.drop dvs.length))) : Binds K fd ps [] := by
  obtain ⟨ds, r, b⟩ := F.binds1 ps.length dvs.length hd (by omega) h
  rw [List.drop_length] at r
  cases r
  exact b
end PyD

/-! PyDB: the small language, run by simp: each construct's equation, what follows named. -/
namespace PyD
section
variable (C : Nat → Fun) (fuel : Nat)
abbrev Rd2 := Option (D × AH)
def kOut (h : AH) (d : D) : Rd2 := some (d, h)
@[simp] theorem kOut_eq (h : AH) (d : D) : kOut h d = some (d, h) := rfl
def kBin (op : Bop) (b : Ex) (σ : Sl) : D × AH → Rd2 := fun p => (ev C b σ p.2).bind fun q => (binop op p.1 q.1).bind (kOut q.2)
def kBin2 (op : Bop) (x : D) : D × AH → Rd2 := fun q => (binop op x q.1).bind (kOut q.2)
@[simp] theorem ev_bin (op a b σ h) : ev C (.bin op a b) σ h = (ev C a σ h).bind (kBin C op b σ) := rfl
@[simp] theorem kBin_ap (op b σ x h) : kBin C op b σ (x, h) = (ev C b σ h).bind (kBin2 op x) := rfl
@[simp] theorem kBin2_ap (op x y h) : kBin2 op x (y, h) = (binop op x y).bind (kOut h) := rfl
def kvar : Option (Option D) → AH → Rd2
  | some (some d), h => some (d, h)
  | _, _ => none
@[simp] theorem kvar_ap (d h) : kvar (some (some d)) h = some (d, h) := rfl
@[simp] theorem ev_var (i σ h) : ev C (.var i) σ h = kvar σ[i]? h := by
  rcases e : σ[i]? with _ | _ | _ <;> simp [ev, kvar, e]
@[simp] theorem ev_non (σ h) : ev C .non σ h = some (.non, h) := rfl
@[simp] theorem ev_bl (b σ h) : ev C (.bl b) σ h = some (.bl b, h) := rfl
@[simp] theorem ev_int (i σ h) : ev C (.int i) σ h = some (.int i, h) := rfl
@[simp] theorem ev_str (s σ h) : ev C (.str s) σ h = some (.str s, h) := rfl
@[simp] theorem ev_glob (x d σ h) : ev C (.glob x d) σ h = some (d, h) := rfl
def kTup : List D × AH → Rd2 := fun p => some (.tup p.1, p.2)
@[simp] theorem kTup_ap (ds h) : kTup (ds, h) = some (.tup ds, h) := rfl
@[simp] theorem ev_tup (es σ h) : ev C (.tup es) σ h = (evs C es σ h).bind kTup := rfl
def kFv : List D × AH → Rd2 := fun p => some (.lst p.1, p.2)
@[simp] theorem kFv_ap (ds h) : kFv (ds, h) = some (.lst ds, h) := rfl
@[simp] theorem ev_fv (f σ h) : ev C (.fv f) σ h = (evF C f σ h).bind kFv := rfl
def kFm : List D × AH → Rd2 := fun p => some (.ref p.2.length, p.2 ++ [.lst p.1])
@[simp] theorem kFm_ap (ds h) : kFm (ds, h) = some (.ref h.length, h ++ [.lst ds]) := rfl
@[simp] theorem ev_fm (f σ h) : ev C (.fm f) σ h = (evF C f σ h).bind kFm := rfl
def kNeg : D × AH → Rd2 := fun p => match p.1 with
  | .int i => some (.int (-i), p.2)
  | _ => none
@[simp] theorem kNeg_ap (i h) : kNeg (.int i, h) = some (.int (-i), h) := rfl
@[simp] theorem ev_neg (a σ h) : ev C (.neg a) σ h = (ev C a σ h).bind kNeg := rfl
def kOutB (h : AH) (b : Bool) : Rd2 := some (.bl b, h)
@[simp] theorem kOutB_eq (h b) : kOutB h b = some (.bl b, h) := rfl
def kCmp2 (op : Cop) (x : D) : D × AH → Rd2 := fun q => (cmpop op x q.1 q.2).bind (kOutB q.2)
def kCmp (op : Cop) (b : Ex) (σ : Sl) : D × AH → Rd2 := fun p => (ev C b σ p.2).bind (kCmp2 op p.1)
@[simp] theorem ev_cmp (op a b σ h) : ev C (.cmp op a b) σ h = (ev C a σ h).bind (kCmp C op b σ) := rfl
@[simp] theorem kCmp_ap (op b σ x h) : kCmp C op b σ (x, h) = (ev C b σ h).bind (kCmp2 op x) := rfl
@[simp] theorem kCmp2_ap (op x y h) : kCmp2 op x (y, h) = (cmpop op x y h).bind (kOutB h) := rfl
def kChain4 (op' : Cop) (y : D) : D × AH → Rd2 := fun p => (cmpop op' y p.1 p.2).bind (kOutB p.2)
def kChain3 (op' : Cop) (y : D) (c : Ex) (σ : Sl) (h : AH) : Bool → Rd2 := fun k => if k then (ev C c σ h).bind (kChain4 op' y) else some (.bl false, h)
def kChain2 (op op' : Cop) (x : D) (c : Ex) (σ : Sl) : D × AH → Rd2 := fun p => (cmpop op x p.1 p.2).bind (kChain3 C op' p.1 c σ p.2)
def kChain (op op' : Cop) (b c : Ex) (σ : Sl) : D × AH → Rd2 := fun p => (ev C b σ p.2).bind (kChain2 C op op' p.1 c σ)
@[simp] theorem ev_chain (op op' a b c σ h) : ev C (.chain op op' a b c) σ h = (ev C a σ h).bind (kChain C op op' b c σ) := rfl
@[simp] theorem kChain_ap (op op' b c σ x h) : kChain C op op' b c σ (x, h) = (ev C b σ h).bind (kChain2 C op op' x c σ) := rfl
@[simp] theorem kChain2_ap (op op' x c σ y h) : kChain2 C op op' x c σ (y, h) = (cmpop op x y h).bind (kChain3 C op' y c σ h) := rfl
@[simp] theorem kChain3_t (op' y c σ h) : kChain3 C op' y c σ h true = (ev C c σ h).bind (kChain4 op' y) := rfl
@[simp] theorem kChain3_f (op' y c σ h) : kChain3 C op' y c σ h false = some (.bl false, h) := rfl
@[simp] theorem kChain4_ap (op' y z h) : kChain4 op' y (z, h) = (cmpop op' y z h).bind (kOutB h) := rfl
@[simp] theorem ev_bop (i es σ h) : ev C (.bop i es) σ h = evB C i es σ h := rfl
def kNot : D × AH → Rd2 := fun p => (truth p.1 p.2).bind fun k => some (.bl (!k), p.2)
def kNot2 (h : AH) (k : Bool) : Rd2 := some (.bl (!k), h)
@[simp] theorem kNot2_ap (h k) : kNot2 h k = some (.bl (!k), h) := rfl
@[simp] theorem kNot_ap (d h) : kNot (d, h) = (truth d h).bind (kNot2 h) := rfl
@[simp] theorem ev_not (a σ h) : ev C (.not a) σ h = (ev C a σ h).bind kNot := rfl
def kIte2 (a b : Ex) (σ : Sl) (h : AH) (k : Bool) : Rd2 := if k then ev C a σ h else ev C b σ h
def kIte (a b : Ex) (σ : Sl) : D × AH → Rd2 := fun p => (truth p.1 p.2).bind (kIte2 C a b σ p.2)
@[simp] theorem kIte2_t (a b σ h) : kIte2 C a b σ h true = ev C a σ h := rfl
@[simp] theorem kIte2_f (a b σ h) : kIte2 C a b σ h false = ev C b σ h := rfl
@[simp] theorem kIte_ap (a b σ d h) : kIte C a b σ (d, h) = (truth d h).bind (kIte2 C a b σ h) := rfl
@[simp] theorem ev_ite (c a b σ h) : ev C (.ite c a b) σ h = (ev C c σ h).bind (kIte C a b σ) := rfl
def kIdx2 (x : D) : D × AH → Rd2 := fun q => (index x q.1 q.2).bind (kOut q.2)
def kIdx (b : Ex) (σ : Sl) : D × AH → Rd2 := fun p => (ev C b σ p.2).bind (kIdx2 p.1)
@[simp] theorem ev_idx (a b σ h) : ev C (.idx a b) σ h = (ev C a σ h).bind (kIdx C b σ) := rfl
@[simp] theorem kIdx_ap (b σ x h) : kIdx C b σ (x, h) = (ev C b σ h).bind (kIdx2 x) := rfl
@[simp] theorem kIdx2_ap (x y h) : kIdx2 x (y, h) = (index x y h).bind (kOut h) := rfl
def kSlc3 (x : D) (l : Option Int) : Option Int × AH → Rd2 := fun p => match x with
  | .tup xs => some (.tup (cut xs l p.1), p.2)
  | _ => none
def kSlc2 (hi : Ox) (σ : Sl) (x : D) : Option Int × AH → Rd2 := fun p => (evO C hi σ p.2).bind (kSlc3 x p.1)
def kSlc (lo hi : Ox) (σ : Sl) : D × AH → Rd2 := fun p => (evO C lo σ p.2).bind (kSlc2 C hi σ p.1)
@[simp] theorem ev_slc (a lo hi σ h) : ev C (.slc a lo hi) σ h = (ev C a σ h).bind (kSlc C lo hi σ) := rfl
@[simp] theorem kSlc_ap (lo hi σ x h) : kSlc C lo hi σ (x, h) = (evO C lo σ h).bind (kSlc2 C hi σ x) := rfl
@[simp] theorem kSlc2_ap (hi σ x l h) : kSlc2 C hi σ x (l, h) = (evO C hi σ h).bind (kSlc3 x l) := rfl
@[simp] theorem kSlc3_ap (xs l u h) : kSlc3 (.tup xs) l (u, h) = some (.tup (cut xs l u), h) := rfl
def kCall (f : Nat) : List D × AH → Rd2 := fun p => callC (C f) p.1 p.2
@[simp] theorem ev_call (f args σ h) : ev C (.call f args) σ h = (evs C args σ h).bind (kCall C f) := rfl
@[simp] theorem kCall_ap (f ds h) : kCall C f (ds, h) = callC (C f) ds h := rfl
def kCK2 (f : Nat) (ds : List D) : List D × AH → Rd2 := fun p => callC (C f) (ds ++ p.1) p.2
def kCK (f : Nat) (kws : Exs) (σ : Sl) : List D × AH → Rd2 := fun p => (evs C kws σ p.2).bind (kCK2 C f p.1)
@[simp] theorem ev_callK (f args kws σ h) : ev C (.callK f args kws) σ h = (evs C args σ h).bind (kCK C f kws σ) := rfl
@[simp] theorem kCK_ap (f kws σ ds h) : kCK C f kws σ (ds, h) = (evs C kws σ h).bind (kCK2 C f ds) := rfl
@[simp] theorem kCK2_ap (f ds es h) : kCK2 C f ds (es, h) = callC (C f) (ds ++ es) h := rfl
def kCD (f : Nat) (dfl : List D) : List D × AH → Rd2 := fun p => callC (C f) (p.1 ++ dfl) p.2
@[simp] theorem ev_callD (f args dfl σ h) : ev C (.callD f args dfl) σ h = (evs C args σ h).bind (kCD C f dfl) := rfl
@[simp] theorem kCD_ap (f dfl ds h) : kCD C f dfl (ds, h) = callC (C f) (ds ++ dfl) h := rfl
def kBlt (b : Blt) : List D × AH → Rd2 := fun p => (bltf b p.1 p.2).bind (kOut p.2)
@[simp] theorem ev_blt (b args σ h) : ev C (.blt b args) σ h = (evs C args σ h).bind (kBlt b) := rfl
@[simp] theorem kBlt_ap (b ds h) : kBlt b (ds, h) = (bltf b ds h).bind (kOut h) := rfl
def kIsi (t : Ty) : D × AH → Rd2 := fun p => (isTyH p.1 t p.2).bind fun k => some (.bl k, p.2)
@[simp] theorem kIsi_ap (t d h) : kIsi t (d, h) = (isTyH d t h).bind fun k => some (.bl k, h) := rfl
@[simp] theorem isTyH_non (t h) : isTyH .non t h = some (isTy .non t) := rfl
@[simp] theorem isTyH_bl (b t h) : isTyH (.bl b) t h = some (isTy (.bl b) t) := rfl
@[simp] theorem isTyH_int (b t h) : isTyH (.int b) t h = some (isTy (.int b) t) := rfl
@[simp] theorem isTyH_str (b t h) : isTyH (.str b) t h = some (isTy (.str b) t) := rfl
@[simp] theorem isTyH_tup (b t h) : isTyH (.tup b) t h = some (isTy (.tup b) t) := rfl
@[simp] theorem isTyH_lst (b t h) : isTyH (.lst b) t h = some (isTy (.lst b) t) := rfl
@[simp] theorem isTyH_rol (b t h) : isTyH (.rol b) t h = some (isTy (.rol b) t) := rfl
theorem isTyH_ref {n t h ds} (e : h[n]? = some (.lst ds)) : isTyH (.ref n) t h = some (isTy (.ref n) t) := by simp only [isTyH, e]
@[simp] theorem ev_isi (a t σ h) : ev C (.isi a t) σ h = (ev C a σ h).bind (kIsi t) := rfl
def kComp (elt : Ex) (tg : Tg) (cond : Ox) (own : List Nat) (σ : Sl) : List D × Option Nat × AH → Rd2 := fun p =>
  if p.1.length ≤ lim then (compL (wipe σ own) tg p.2.1 p.1.length (tstO C cond) (ev C elt) p.1 0 p.2.2).bind kFv else none
@[simp] theorem ev_comp (elt tg it cond own σ h) : ev C (.comp elt tg it cond own) σ h = (evI C it σ h).bind (kComp C elt tg cond own σ) := rfl
theorem kComp_ap (elt tg cond own σ xs n h) (hl : xs.length ≤ lim) : kComp C elt tg cond own σ (xs, n, h) = (compL (wipe σ own) tg n xs.length (tstO C cond) (ev C elt) xs 0 h).bind kFv := if_pos hl
def kApp2 (x : D) : D × AH → Rd2 := fun p => match x with
  | .ref n => (match p.2[n]? with
    | some (.lst ds) => if ds.length < lim then some (.non, p.2.set n (.lst (ds ++ [p.1]))) else none
    | _ => none)
  | _ => none
def kApp (e : Ex) (σ : Sl) : D × AH → Rd2 := fun p => (litems p.1 p.2).bind fun _ => (ev C e σ p.2).bind (kApp2 p.1)
@[simp] theorem ev_app (l e σ h) : ev C (.app l e) σ h = (ev C l σ h).bind (kApp C e σ) := rfl
@[simp] theorem kApp_ap (e σ x h) : kApp C e σ (x, h) = (litems x h).bind fun _ => (ev C e σ h).bind (kApp2 x) := rfl
theorem kApp2_ap {n y h ds} (e : h[n]? = some (.lst ds)) (hl : ds.length < lim) : kApp2 (.ref n) (y, h) = some (.non, h.set n (.lst (ds ++ [y]))) := by
  simp only [kApp2, e]; exact if_pos hl
def kExt3 (x : D) (h : AH) (ys : List D) : Rd2 := match x with
  | .ref n => (match h[n]? with
    | some (.lst ds) => if ds.length + ys.length ≤ lim then some (.non, h.set n (.lst (ds ++ ys))) else none
    | _ => none)
  | _ => none
def kExt2 (x : D) : D × AH → Rd2 := fun p => (mitems p.1 p.2).bind (kExt3 x p.2)
def kExt (e : Ex) (σ : Sl) : D × AH → Rd2 := fun p => (litems p.1 p.2).bind fun _ => (ev C e σ p.2).bind (kExt2 p.1)
@[simp] theorem ev_ext (l e σ h) : ev C (.ext l e) σ h = (ev C l σ h).bind (kExt C e σ) := rfl
@[simp] theorem kExt_ap (e σ x h) : kExt C e σ (x, h) = (litems x h).bind fun _ => (ev C e σ h).bind (kExt2 x) := rfl
theorem kExt2_ap {n y h ds ys} (e : h[n]? = some (.lst ds)) (q : mitems y h = some ys) (hl : ds.length + ys.length ≤ lim) : kExt2 (.ref n) (y, h) = some (.non, h.set n (.lst (ds ++ ys))) := by
  simp only [kExt2, q, Option.bind_some, kExt3, e]; exact if_pos hl
@[simp] theorem ev_dct0 (σ h) : ev C .dct0 σ h = some (.ref h.length, h ++ [.ids []]) := rfl
def kDc2 (x : D) : D × AH → Rd2 := fun p => if kyD x then some (.ref p.2.length, p.2 ++ [.dct [(x, p.1)]]) else none
def kDc (v : Ex) (σ : Sl) : D × AH → Rd2 := fun p => (ev C v σ p.2).bind (kDc2 p.1)
@[simp] theorem ev_dct1 (k v σ h) : ev C (.dct1 k v) σ h = (ev C k σ h).bind (kDc C v σ) := rfl
@[simp] theorem kDc_ap (v σ x h) : kDc C v σ (x, h) = (ev C v σ h).bind (kDc2 x) := rfl
theorem kDc2_ap {x y h} (e : kyD x = true) : kDc2 x (y, h) = some (.ref h.length, h ++ [.dct [(x, y)]]) := if_pos e
def kInD2 (ng : Bool) (x : D) : D × AH → Rd2 := fun p => (dctOf p.1 p.2).bind fun kvs => if kyD x then some (.bl ((dget kvs x).isSome != ng), p.2) else none
def kInD (ng : Bool) (b : Ex) (σ : Sl) : D × AH → Rd2 := fun p => (ev C b σ p.2).bind (kInD2 ng p.1)
@[simp] theorem ev_inD (ng a b σ h) : ev C (.inD ng a b) σ h = (ev C a σ h).bind (kInD C ng b σ) := rfl
@[simp] theorem kInD_ap (ng b σ x h) : kInD C ng b σ (x, h) = (ev C b σ h).bind (kInD2 ng x) := rfl
theorem kInD2_ap {ng x n h kvs} (e : h[n]? = some (.dct kvs)) (q : kyD x = true) : kInD2 ng x (.ref n, h) = some (.bl ((dget kvs x).isSome != ng), h) := by
  simp only [kInD2, dctOf, e, Option.bind_some]; exact if_pos q
def kIdD2 (x : D) : D × AH → Rd2 := fun p => (dctOf x p.2).bind fun kvs => if kyD p.1 then (dget kvs p.1).bind fun z => some (z, p.2) else none
def kIdD (b : Ex) (σ : Sl) : D × AH → Rd2 := fun p => (ev C b σ p.2).bind (kIdD2 p.1)
@[simp] theorem ev_idxD (a b σ h) : ev C (.idxD a b) σ h = (ev C a σ h).bind (kIdD C b σ) := rfl
@[simp] theorem kIdD_ap (b σ x h) : kIdD C b σ (x, h) = (ev C b σ h).bind (kIdD2 x) := rfl
theorem kIdD2_ap {y n h kvs z} (e : h[n]? = some (.dct kvs)) (q : kyD y = true) (g : dget kvs y = some z) : kIdD2 (.ref n) (y, h) = some (z, h) := by
  simp only [kIdD2, dctOf, e, Option.bind_some, q, if_true, g]
@[simp] theorem ev_dctT (σ h) : ev C .dctT σ h = some (.ref h.length, h ++ [.dct []]) := rfl
def kPop : D × AH → Rd2 := fun p => popD p.1 p.2
@[simp] theorem kPop_ap (x h) : kPop (x, h) = popD x h := rfl
@[simp] theorem ev_pop0 (l σ h) : ev C (.pop0 l) σ h = (ev C l σ h).bind kPop := rfl
def kInT3 (h : AH) (z : D) : Rd2 := some (z, h)
def kInT2 (ng : Bool) (x : D) : D × AH → Rd2 := fun p => (inTD ng x (rsv p.1 p.2)).bind (kInT3 p.2)
def kInT (ng : Bool) (b : Ex) (σ : Sl) : D × AH → Rd2 := fun p => (ev C b σ p.2).bind (kInT2 ng p.1)
@[simp] theorem ev_inT (ng a b σ h) : ev C (.inT ng a b) σ h = (ev C a σ h).bind (kInT C ng b σ) := rfl
@[simp] theorem kInT_ap (ng b σ x h) : kInT C ng b σ (x, h) = (ev C b σ h).bind (kInT2 ng x) := rfl
@[simp] theorem kInT2_ap (ng x y h) : kInT2 ng x (y, h) = (inTD ng x (rsv y h)).bind (kInT3 h) := rfl
@[simp] theorem rsv_tup (ds h) : rsv (.tup ds) h = .tup ds := rfl
@[simp] theorem rsv_lst (ds h) : rsv (.lst ds) h = .lst ds := rfl
theorem rsv_ref {n ds h} (e : h[n]? = some (.lst ds)) : rsv (.ref n) h = .lst ds := by simp only [rsv, e]
theorem inTL_ap {ng x ds} (h1 : closed x = true) (h2 : closeds ds = true) (h3 : depD x ≤ 60) (h4 : depDs ds ≤ 59) : inTD ng x (.lst ds) = some (.bl ((ds.any fun z => eqD z x) != ng)) := by
  simp [inTD, h1, h2, h3, h4]
@[simp] theorem kInT3_ap (h z) : kInT3 h z = some (z, h) := rfl
theorem inTD_ap {ng x ds} (h1 : closed x = true) (h2 : closeds ds = true) (h3 : depD x ≤ 60) (h4 : depDs ds ≤ 59) : inTD ng x (.tup ds) = some (.bl ((ds.any fun z => eqD z x) != ng)) := by
  simp only [inTD, h1, h2, decide_eq_true h3, decide_eq_true h4]; rfl
abbrev Rds := Option (List D × AH)
def kEs2 (d : D) : List D × AH → Rds := fun q => some (d :: q.1, q.2)
def kEs (es : Exs) (σ : Sl) : D × AH → Rds := fun p => (evs C es σ p.2).bind (kEs2 p.1)
theorem ev_callL {i x g args σ h} (e : σ[i]? = some (some (.fn x))) : ev C (.callL i x g args) σ h = (evs C args σ h).bind (kCall C g) := by
  have : ev C (.callL i x g args) σ h = (match σ[i]? with
    | some (some (.fn y)) => if y = x then (evs C args σ h).bind (kCall C g) else none
    | _ => none) := rfl
  rw [this, e]
  exact if_pos rfl
def kPopE : D × AH → Rd2 := fun p => popED p.1 p.2
@[simp] theorem kPopE_ap (x h) : kPopE (x, h) = popED x h := rfl
@[simp] theorem ev_popE (l σ h) : ev C (.popE l) σ h = (ev C l σ h).bind kPopE := rfl
def kSix (s : String) : D × AH → Rd2 := fun p => match p.1 with
  | .str b => (sIdx s b).bind fun i => some (.int (i : Nat), p.2)
  | _ => none
@[simp] theorem kSix_ap (s b h) : kSix s (.str b, h) = (sIdx s b).bind fun i => some (.int (i : Nat), h) := rfl
@[simp] theorem ev_sidx (x s e σ h) : ev C (.sidx x s e) σ h = (ev C e σ h).bind (kSix s) := rfl
@[simp] theorem evs_nil (σ h) : evs C .nil σ h = some ([], h) := rfl
@[simp] theorem evs_cons (e es σ h) : evs C (.cons e es) σ h = (ev C e σ h).bind (kEs C es σ) := rfl
@[simp] theorem kEs_ap (es σ d h) : kEs C es σ (d, h) = (evs C es σ h).bind (kEs2 d) := rfl
@[simp] theorem kEs2_ap (d ds h) : kEs2 d (ds, h) = some (d :: ds, h) := rfl
def kO : D × AH → Option (Option Int × AH) := fun p => match p.1 with
  | .int i => some (some i, p.2)
  | _ => none
@[simp] theorem kO_ap (i h) : kO (.int i, h) = some (some i, h) := rfl
@[simp] theorem evO_no (σ h) : evO C .no σ h = some (none, h) := rfl
@[simp] theorem evO_so (e σ h) : evO C (.so e) σ h = (ev C e σ h).bind kO := rfl
def kB2 (i : Bool) (es : Exs) (σ : Sl) (d : D) (h : AH) (k : Bool) : Rd2 := if k == i then evB C i es σ h else some (d, h)
def kB (i : Bool) (es : Exs) (σ : Sl) : D × AH → Rd2 := fun p => (truth p.1 p.2).bind (kB2 C i es σ p.1 p.2)
@[simp] theorem evB_one (i e σ h) : evB C i (.cons e .nil) σ h = ev C e σ h := rfl
@[simp] theorem evB_cons (i e e2 es σ h) : evB C i (.cons e (.cons e2 es)) σ h = (ev C e σ h).bind (kB C i (.cons e2 es) σ) := rfl
@[simp] theorem kB_ap (i es σ d h) : kB C i es σ (d, h) = (truth d h).bind (kB2 C i es σ d h) := rfl
@[simp] theorem kB2_tt (es σ d h) : kB2 C true es σ d h true = evB C true es σ h := rfl
@[simp] theorem kB2_tf (es σ d h) : kB2 C true es σ d h false = some (d, h) := rfl
@[simp] theorem kB2_ft (es σ d h) : kB2 C false es σ d h true = some (d, h) := rfl
@[simp] theorem kB2_ff (es σ d h) : kB2 C false es σ d h false = evB C false es σ h := rfl
def kTst2 (h : AH) (k : Bool) : Option (Bool × AH) := some (k, h)
@[simp] theorem kTst2_ap (h k) : kTst2 h k = some (k, h) := rfl
def kTst : D × AH → Option (Bool × AH) := fun p => (truth p.1 p.2).bind (kTst2 p.2)
@[simp] theorem kTst_ap (d h) : kTst (d, h) = (truth d h).bind (kTst2 h) := rfl
@[simp] theorem tst_eq (e σ h) : tst C e σ h = (ev C e σ h).bind kTst := rfl
@[simp] theorem tstO_no (σ h) : tstO C .no σ h = some (true, h) := rfl
@[simp] theorem tstO_so (e σ h) : tstO C (.so e) σ h = (ev C e σ h).bind kTst := rfl
-- new lists
@[simp] theorem evF_disp (es σ h) : evF C (.disp es) σ h = evs C es σ h := rfl
def kRep2 (x : D) : D × AH → Rds := fun p => match p.1 with
  | .int k => (mitems x p.2).bind fun xs => if 0 ≤ k ∧ k ≤ lim ∧ xs.length * k.toNat ≤ lim then some ((List.replicate k.toNat xs).flatten, p.2) else none
  | _ => none
def kRep (n : Ex) (σ : Sl) : D × AH → Rds := fun p => (ev C n σ p.2).bind (kRep2 p.1)
@[simp] theorem evF_rep (a n σ h) : evF C (.rep a n) σ h = (ev C a σ h).bind (kRep C n σ) := rfl
@[simp] theorem kRep_ap (n σ x h) : kRep C n σ (x, h) = (ev C n σ h).bind (kRep2 x) := rfl
theorem kRep2_one {x : D} {n : Nat} {h} (hn : n ≤ lim) : kRep2 (.lst [x]) (.int n, h) = some (List.replicate n x, h) := by
  have : ((List.replicate n [x]).flatten) = List.replicate n x := by
    induction n with
    | zero => rfl
    | succ n ih => rw [List.replicate_succ, List.flatten_cons, ih (by omega)]; rfl
  simp only [kRep2, mitems, Option.bind_some]
  rw [if_pos ⟨by omega, by omega, by simp; omega⟩]
  simp [this]
def kIts : D × AH → Rds := fun p => (items p.1 p.2).bind fun xs => some (xs, p.2)
def kLs (h : AH) (xs : List D) : Rds := some (xs, h)
@[simp] theorem kLs_ap (h xs) : kLs h xs = some (xs, h) := rfl
@[simp] theorem kIts_ap (d h) : kIts (d, h) = (items d h).bind (kLs h) := rfl
@[simp] theorem evF_ofSeq (e σ h) : evF C (.ofSeq e) σ h = (ev C e σ h).bind kIts := rfl
def kR1 : D × AH → Rds := fun p => match p.1 with
  | .int i => (rng 0 i).bind fun xs => some (xs, p.2)
  | _ => none
@[simp] theorem kR1_ap (i h) : kR1 (.int i, h) = (rng 0 i).bind (kLs h) := rfl
@[simp] theorem evF_rng1 (b σ h) : evF C (.rng1 b) σ h = (ev C b σ h).bind kR1 := by
  simp only [evF]
  congr 1
def kR3 (x : D) : D × AH → Rds := fun p => match x, p.1 with
  | .int i, .int j => (rng i j).bind fun xs => some (xs, p.2)
  | _, _ => none
def kR2 (b : Ex) (σ : Sl) : D × AH → Rds := fun p => (ev C b σ p.2).bind (kR3 p.1)
@[simp] theorem kR2_ap (b σ x h) : kR2 C b σ (x, h) = (ev C b σ h).bind (kR3 x) := rfl
@[simp] theorem kR3_ap (i j h) : kR3 (.int i) (.int j, h) = (rng i j).bind (kLs h) := rfl
@[simp] theorem evF_rng2 (a b σ h) : evF C (.rng2 a b) σ h = (ev C a σ h).bind (kR2 C b σ) := rfl
def kRev : D × AH → Rds := fun p => (litems p.1 p.2).bind fun xs => some (xs.reverse, p.2)
def kRev2 (h : AH) (xs : List D) : Rds := some (xs.reverse, h)
@[simp] theorem kRev2_ap (h xs) : kRev2 h xs = some (xs.reverse, h) := rfl
@[simp] theorem kRev_ap (d h) : kRev (d, h) = (litems d h).bind (kRev2 h) := rfl
@[simp] theorem evF_rev (a σ h) : evF C (.rev a) σ h = (ev C a σ h).bind kRev := rfl
def kSrtT3 (h : AH) (L : List (List Int)) : Rds := if okT L then some ((tsort L).map tupI, h) else none
def kSrtT2 (h : AH) (kvs : List (D × D)) : Rds := (tkeys kvs).bind (kSrtT3 h)
def kSrtT : D × AH → Rds := fun p => (dctOf p.1 p.2).bind (kSrtT2 p.2)
@[simp] theorem kSrtT_ap (d h) : kSrtT (d, h) = (dctOf d h).bind (kSrtT2 h) := rfl
@[simp] theorem kSrtT2_ap (h kvs) : kSrtT2 h kvs = (tkeys kvs).bind (kSrtT3 h) := rfl
theorem kSrtT3_ap {h L} (e : okT L = true) : kSrtT3 h L = some ((tsort L).map tupI, h) := if_pos e
@[simp] theorem evF_srtT (a σ h) : evF C (.srtT a) σ h = (ev C a σ h).bind kSrtT := rfl
def kSrtS3 (h : AH) (L : List (List Int)) : Rds := if okT L then some ((tsort (tuniq L)).map tupI, h) else none
def kSrtS : D × AH → Rds := fun p => (titems p.1).bind (kSrtS3 p.2)
@[simp] theorem kSrtS_ap (d h) : kSrtS (d, h) = (titems d).bind (kSrtS3 h) := rfl
theorem kSrtS3_ap {h L} (e : okT L = true) : kSrtS3 h L = some ((tsort (tuniq L)).map tupI, h) := if_pos e
@[simp] theorem evF_srtS (a σ h) : evF C (.srtS a) σ h = (ev C a σ h).bind kSrtS := rfl
def kSrt2 (h : AH) (ks : List Int) : Rds := some ((isort ks).map .int, h)
@[simp] theorem kSrt2_ap (h ks) : kSrt2 h ks = some ((isort ks).map .int, h) := rfl
def kSrt : D × AH → Rds := fun p => (sortOf p.1 p.2).bind (kSrt2 p.2)
@[simp] theorem kSrt_ap (d h) : kSrt (d, h) = (sortOf d h).bind (kSrt2 h) := rfl
@[simp] theorem evF_srt (a σ h) : evF C (.srt a) σ h = (ev C a σ h).bind kSrt := rfl
def kCat2 (x : D) : D × AH → Rds := fun p => (mitems x p.2).bind fun xs => (mitems p.1 p.2).bind fun ys => if xs.length + ys.length ≤ lim then some (xs ++ ys, p.2) else none
def kCat (b : Ex) (σ : Sl) : D × AH → Rds := fun p => (ev C b σ p.2).bind (kCat2 p.1)
@[simp] theorem kCat_ap (b σ x h) : kCat C b σ (x, h) = (ev C b σ h).bind (kCat2 x) := rfl
@[simp] theorem evF_cat (a b σ h) : evF C (.cat a b) σ h = (ev C a σ h).bind (kCat C b σ) := rfl
theorem kCat2_ap {x y : D} {h xs ys} (e1 : mitems x h = some xs) (e2 : mitems y h = some ys) (hl : xs.length + ys.length ≤ lim) : kCat2 x (y, h) = some (xs ++ ys, h) := by
  simp only [kCat2, e1, e2, Option.bind_some]; exact if_pos hl
def kCut3 (x : D) (l : Option Int) : Option Int × AH → Rds := fun p => (litems x p.2).bind fun xs => some (cut xs l p.1, p.2)
def kCut2 (hi : Ox) (σ : Sl) (x : D) : Option Int × AH → Rds := fun p => (evO C hi σ p.2).bind (kCut3 x p.1)
def kCut (lo hi : Ox) (σ : Sl) : D × AH → Rds := fun p => (evO C lo σ p.2).bind (kCut2 C hi σ p.1)
def kCut4 (l u : Option Int) (h : AH) (xs : List D) : Rds := some (cut xs l u, h)
@[simp] theorem kCut4_ap (l u h xs) : kCut4 l u h xs = some (cut xs l u, h) := rfl
@[simp] theorem kCut_ap (lo hi σ x h) : kCut C lo hi σ (x, h) = (evO C lo σ h).bind (kCut2 C hi σ x) := rfl
@[simp] theorem kCut2_ap (hi σ x l h) : kCut2 C hi σ x (l, h) = (evO C hi σ h).bind (kCut3 x l) := rfl
@[simp] theorem kCut3_ap (x l u h) : kCut3 x l (u, h) = (litems x h).bind (kCut4 l u h) := rfl
@[simp] theorem evF_cut (a lo hi σ h) : evF C (.cut a lo hi) σ h = (ev C a σ h).bind (kCut C lo hi σ) := rfl
-- walks
abbrev Rit := Option (List D × Option Nat × AH)
def rfOf : D → Option Nat
  | .ref n => some n
  | _ => none
def kSq2 (n : Option Nat) (h : AH) (xs : List D) : Rit := some (xs, n, h)
@[simp] theorem kSq2_ap (n h xs) : kSq2 n h xs = some (xs, n, h) := rfl
def kSq : D × AH → Rit := fun p => (items p.1 p.2).bind (kSq2 (rfOf p.1) p.2)
@[simp] theorem kSq_ap (d h) : kSq (d, h) = (items d h).bind (kSq2 (rfOf d) h) := rfl
@[simp] theorem rfOf_tup (ds) : rfOf (.tup ds) = none := rfl
@[simp] theorem rfOf_lst (ds) : rfOf (.lst ds) = none := rfl
@[simp] theorem rfOf_rol (ds) : rfOf (.rol ds) = none := rfl
@[simp] theorem rfOf_ref (n) : rfOf (.ref n) = some n := rfl
@[simp] theorem evI_seq (e σ h) : evI C (.seq e) σ h = (ev C e σ h).bind kSq := by
  simp only [evI]
  congr 1
def kI1 : D × AH → Rit := fun p => match p.1 with
  | .int i => (rng 0 i).bind fun xs => some (xs, none, p.2)
  | _ => none
@[simp] theorem kI1_ap (i h) : kI1 (.int i, h) = (rng 0 i).bind (kSq2 none h) := rfl
def kChr : D × AH → Option (List D × Option Nat × AH) := fun p => match p.1 with
  | .str s => some ((signs s).map .str, none, p.2)
  | _ => none
@[simp] theorem kChr_ap (s h) : kChr (.str s, h) = some ((signs s).map .str, none, h) := rfl
@[simp] theorem evI_chars (e σ h) : evI C (.chars e) σ h = (ev C e σ h).bind kChr := rfl
@[simp] theorem evI_rng1 (b σ h) : evI C (.rng1 b) σ h = (ev C b σ h).bind kI1 := rfl
def kI3 (x : D) : D × AH → Rit := fun p => match x, p.1 with
  | .int i, .int j => (rng i j).bind fun xs => some (xs, none, p.2)
  | _, _ => none
def kI2 (b : Ex) (σ : Sl) : D × AH → Rit := fun p => (ev C b σ p.2).bind (kI3 p.1)
@[simp] theorem kI2_ap (b σ x h) : kI2 C b σ (x, h) = (ev C b σ h).bind (kI3 x) := rfl
@[simp] theorem kI3_ap (i j h) : kI3 (.int i) (.int j, h) = (rng i j).bind (kSq2 none h) := rfl
@[simp] theorem evI_rng2 (a b σ h) : evI C (.rng2 a b) σ h = (ev C a σ h).bind (kI2 C b σ) := rfl
def kEn : D × AH → Rit := fun p => match p.1 with
  | .tup xs => some (xs.mapIdx (fun i d => .tup [.int i, d]), none, p.2)
  | .lst xs => some (xs.mapIdx (fun i d => .tup [.int i, d]), none, p.2)
  | .rol xs => some (xs.mapIdx (fun i d => .tup [.int i, d]), none, p.2)
  | _ => none
@[simp] theorem kEn_tup (xs h) : kEn (.tup xs, h) = some (xs.mapIdx (fun i d => .tup [.int i, d]), none, h) := rfl
@[simp] theorem kEn_lst (xs h) : kEn (.lst xs, h) = some (xs.mapIdx (fun i d => .tup [.int i, d]), none, h) := rfl
@[simp] theorem kEn_rol (xs h) : kEn (.rol xs, h) = some (xs.mapIdx (fun i d => .tup [.int i, d]), none, h) := rfl
@[simp] theorem evI_enum (e σ h) : evI C (.enum e) σ h = (ev C e σ h).bind kEn := rfl
def kZip2 (x : D) : D × AH → Rit := fun p => match x, p.1 with
  | .tup xs, .tup ys => some ((xs.zip ys).map (fun p => .tup [p.1, p.2]), none, p.2)
  | .lst xs, .tup ys => some ((xs.zip ys).map (fun p => .tup [p.1, p.2]), none, p.2)
  | _, _ => none
def kZip (b : Ex) (σ : Sl) : D × AH → Rit := fun p => (ev C b σ p.2).bind (kZip2 p.1)
@[simp] theorem kZip_ap (b σ x h) : kZip C b σ (x, h) = (ev C b σ h).bind (kZip2 x) := rfl
@[simp] theorem kZip2_ap (xs ys h) : kZip2 (.tup xs) (.tup ys, h) = some ((xs.zip ys).map (fun p => .tup [p.1, p.2]), none, h) := rfl
@[simp] theorem kZip2_apL (xs ys h) : kZip2 (.lst xs) (.tup ys, h) = some ((xs.zip ys).map (fun p => .tup [p.1, p.2]), none, h) := rfl
@[simp] theorem evI_zip (a b σ h) : evI C (.zip a b) σ h = (ev C a σ h).bind (kZip C b σ) := rfl
-- statements
abbrev Rs := Option (Fl × Sl × AH)
def kSet (i : Nat) (σ : Sl) : D × AH → Rs := fun p => some (.nx, σ.set i (some p.1), p.2)
@[simp] theorem kSet_ap (i σ d h) : kSet i σ (d, h) = some (.nx, σ.set i (some d), h) := rfl
@[simp] theorem ex_set (i e σ h) : ex C fuel (.set i e) σ h = (ev C e σ h).bind (kSet i σ) := rfl
def kP2 (i j : Nat) (σ : Sl) (x : D) : D × AH → Rs := fun p => some (.nx, (σ.set i (some x)).set j (some p.1), p.2)
def kP1 (i j : Nat) (b : Ex) (σ : Sl) : D × AH → Rs := fun p => (ev C b σ p.2).bind (kP2 i j σ p.1)
@[simp] theorem kP2_ap (i j σ x y h) : kP2 i j σ x (y, h) = some (.nx, (σ.set i (some x)).set j (some y), h) := rfl
@[simp] theorem kP1_ap (i j b σ x h) : kP1 C i j b σ (x, h) = (ev C b σ h).bind (kP2 i j σ x) := rfl
@[simp] theorem ex_par2 (i j a b σ h) : ex C fuel (.par2 i j a b) σ h = (ev C a σ h).bind (kP1 C i j b σ) := rfl
def kQ3 (i j k : Nat) (σ : Sl) (x y : D) : D × AH → Rs := fun p => some (.nx, ((σ.set i (some x)).set j (some y)).set k (some p.1), p.2)
def kQ2 (i j k : Nat) (c : Ex) (σ : Sl) (x : D) : D × AH → Rs := fun p => (ev C c σ p.2).bind (kQ3 i j k σ x p.1)
def kQ1 (i j k : Nat) (b c : Ex) (σ : Sl) : D × AH → Rs := fun p => (ev C b σ p.2).bind (kQ2 C i j k c σ p.1)
@[simp] theorem kQ3_ap (i j k σ x y z h) : kQ3 i j k σ x y (z, h) = some (.nx, ((σ.set i (some x)).set j (some y)).set k (some z), h) := rfl
@[simp] theorem kQ2_ap (i j k c σ x y h) : kQ2 C i j k c σ x (y, h) = (ev C c σ h).bind (kQ3 i j k σ x y) := rfl
@[simp] theorem kQ1_ap (i j k b c σ x h) : kQ1 C i j k b c σ (x, h) = (ev C b σ h).bind (kQ2 C i j k c σ x) := rfl
@[simp] theorem ex_par3 (i j k a b c σ h) : ex C fuel (.par3 i j k a b c) σ h = (ev C a σ h).bind (kQ1 C i j k b c σ) := rfl
def kAsg2 (h : AH) (σ : Sl) : Rs := some (.nx, σ, h)
def kAsg (t : Tg) (σ : Sl) : D × AH → Rs := fun p => (put t p.1 σ).bind (kAsg2 p.2)
@[simp] theorem kAsg2_ap (h σ) : kAsg2 h σ = some (.nx, σ, h) := rfl
@[simp] theorem kAsg_ap (t σ d h) : kAsg t σ (d, h) = (put t d σ).bind (kAsg2 h) := rfl
@[simp] theorem ex_asg (t e σ h) : ex C fuel (.asg t e) σ h = (ev C e σ h).bind (kAsg t σ) := rfl
def kAug2 (i : Nat) (σ : Sl) (h : AH) (z : Int) : Rs := some (.nx, σ.set i (some (.int z)), h)
def kAug3 (i : Nat) (op : Bop) (σ : Sl) (x : Int) : D × AH → Rs := fun p => (augF op x p.1).bind fun z => some (.nx, σ.set i (some z), p.2)
def kAug (i : Nat) (op : Bop) (e : Ex) (σ : Sl) (h : AH) : Option (Option D) → Rs
  | some (some (.int x)) => (ev C e σ h).bind (kAug3 i op σ x)
  | _ => none
@[simp] theorem kAug3_add (i σ x y h) : kAug3 i .add σ x (.int y, h) = some (.nx, σ.set i (some (.int (x + y))), h) := rfl
@[simp] theorem kAug3_sub (i σ x y h) : kAug3 i .sub σ x (.int y, h) = some (.nx, σ.set i (some (.int (x - y))), h) := rfl
@[simp] theorem kAug_ap (i op e σ h x) : kAug C i op e σ h (some (some (.int x))) = (ev C e σ h).bind (kAug3 i op σ x) := rfl
@[simp] theorem ex_aug (i op e σ h) : ex C fuel (.aug i op e) σ h = kAug C i op e σ h σ[i]? := by
  rcases q : σ[i]? with _ | _ | d
  · simp [ex, kAug, q]
  · simp [ex, kAug, q]
  · cases d <;> simp [ex, kAug, q, kAug3] <;> rfl
def kSx3 (σ : Sl) (d x : D) : D × AH → Rs := fun p => match x, p.1 with
    | .ref n, .int k => (match p.2[n]? with
      | some (.lst ds) => (place ds.length k).bind fun j => some (.nx, σ, p.2.set n (.lst (ds.set j d)))
      | _ => none)
    | _, _ => none
def kSx2 (i : Ex) (σ : Sl) (d : D) : D × AH → Rs := fun p => (ev C i σ p.2).bind (kSx3 σ d p.1)
def kSx (o i : Ex) (σ : Sl) : D × AH → Rs := fun p => (ev C o σ p.2).bind (kSx2 C i σ p.1)
@[simp] theorem kSx_ap (o i σ d h) : kSx C o i σ (d, h) = (ev C o σ h).bind (kSx2 C i σ d) := rfl
@[simp] theorem kSx2_ap (i σ d x h) : kSx2 C i σ d (x, h) = (ev C i σ h).bind (kSx3 σ d x) := rfl
theorem kSx3_ap {σ d n k h ds j} (e : h[n]? = some (.lst ds)) (ej : place ds.length k = some j) : kSx3 σ d (.ref n) (.int k, h) = some (.nx, σ, h.set n (.lst (ds.set j d))) := by
  simp only [kSx3, e, ej, Option.bind_some]
@[simp] theorem ex_setIx (o i e σ h) : ex C fuel (.setIx o i e) σ h = (ev C e σ h).bind (kSx C o i σ) := rfl
def kSd3 (σ : Sl) (d x : D) : D × AH → Rs := fun p => match x with
    | .ref n => (match p.2[n]? with
      | some (.dct kvs) => if kyD p.1 && decide (kvs.length < lim) then some (.nx, σ, p.2.set n (.dct (dput kvs p.1 d))) else none
      | _ => none)
    | _ => none
def kSd2 (i : Ex) (σ : Sl) (d : D) : D × AH → Rs := fun p => (ev C i σ p.2).bind (kSd3 σ d p.1)
def kSd (o i : Ex) (σ : Sl) : D × AH → Rs := fun p => (ev C o σ p.2).bind (kSd2 C i σ p.1)
@[simp] theorem kSd_ap (o i σ d h) : kSd C o i σ (d, h) = (ev C o σ h).bind (kSd2 C i σ d) := rfl
@[simp] theorem kSd2_ap (i σ d x h) : kSd2 C i σ d (x, h) = (ev C i σ h).bind (kSd3 σ d x) := rfl
theorem kSd3_ap {σ d n y h kvs} (e : h[n]? = some (.dct kvs)) (q : kyD y = true) (hl : kvs.length < lim) : kSd3 σ d (.ref n) (y, h) = some (.nx, σ, h.set n (.dct (dput kvs y d))) := by
  simp only [kSd3, e, q, Bool.true_and, decide_eq_true hl]; rfl
@[simp] theorem ex_setD (o i e σ h) : ex C fuel (.setD o i e) σ h = (ev C e σ h).bind (kSd C o i σ) := rfl
theorem dput_length (kvs k v) : (dput kvs k v).length ≤ kvs.length + 1 := by
  unfold dput
  split
  · simp
  · simp
def kSi4 (σ : Sl) (h : AH) : Rs := some (.nx, σ, h)
def kSi3 (σ : Sl) (d x : D) : D × AH → Rs := fun p => (putID x p.1 d p.2).bind (kSi4 σ)
def kSi2 (i : Ex) (σ : Sl) (d : D) : D × AH → Rs := fun p => (ev C i σ p.2).bind (kSi3 σ d p.1)
def kSi (o i : Ex) (σ : Sl) : D × AH → Rs := fun p => (ev C o σ p.2).bind (kSi2 C i σ p.1)
@[simp] theorem kSi_ap (o i σ d h) : kSi C o i σ (d, h) = (ev C o σ h).bind (kSi2 C i σ d) := rfl
@[simp] theorem kSi2_ap (i σ d x h) : kSi2 C i σ d (x, h) = (ev C i σ h).bind (kSi3 σ d x) := rfl
@[simp] theorem kSi3_ap (σ d x y h) : kSi3 σ d x (y, h) = (putID x y d h).bind (kSi4 σ) := rfl
@[simp] theorem kSi4_ap (σ h) : kSi4 σ h = some (.nx, σ, h) := rfl
theorem putID_ap {n k h ks} (e : h[n]? = some (.ids ks)) (hl : ks.length < lim) : putID (.ref n) (.int k) (.bl true) h = some (h.set n (.ids (putI ks k))) := by
  simp only [putID, e]; exact if_pos hl
@[simp] theorem ex_setI (o i e σ h) : ex C fuel (.setI o i e) σ h = (ev C e σ h).bind (kSi C o i σ) := rfl
def kExpr (σ : Sl) : D × AH → Rs := fun p => some (.nx, σ, p.2)
@[simp] theorem kExpr_ap (σ d h) : kExpr σ (d, h) = some (.nx, σ, h) := rfl
@[simp] theorem ex_expr (e σ h) : ex C fuel (.expr e) σ h = (ev C e σ h).bind (kExpr σ) := rfl
def kRet (σ : Sl) : D × AH → Rs := fun p => some (.rt p.1, σ, p.2)
@[simp] theorem kRet_ap (σ d h) : kRet σ (d, h) = some (.rt d, σ, h) := rfl
@[simp] theorem ex_ret (e σ h) : ex C fuel (.ret e) σ h = (ev C e σ h).bind (kRet σ) := rfl
@[simp] theorem ex_retN (σ h) : ex C fuel .retN σ h = some (.rt .non, σ, h) := rfl
def kIf (t e : Ss) (σ : Sl) : Bool × AH → Rs := fun p => if p.1 then exs C fuel t σ p.2 else exs C fuel e σ p.2
@[simp] theorem kIf_t (t e σ h) : kIf C fuel t e σ (true, h) = exs C fuel t σ h := rfl
@[simp] theorem kIf_f (t e σ h) : kIf C fuel t e σ (false, h) = exs C fuel e σ h := rfl
@[simp] theorem ex_ite (c t e σ h) : ex C fuel (.ite c t e) σ h = (tst C c σ h).bind (kIf C fuel t e σ) := rfl
theorem ex_whl (c b σ h) : ex C fuel (.whl c b) σ h = whileF (tst C c) (exs C fuel b) fuel σ h := rfl
def kFor (t : Tg) (b : Ss) (σ : Sl) : List D × Option Nat × AH → Rs := fun p => forL t p.2.1 p.1.length (exs C fuel b) p.1 0 σ p.2.2
theorem kFor_ap (t b σ xs n h) : kFor C fuel t b σ (xs, n, h) = forL t n xs.length (exs C fuel b) xs 0 σ h := rfl
@[simp] theorem ex_for (t it b σ h) : ex C fuel (.for_ t it b) σ h = (evI C it σ h).bind (kFor C fuel t b σ) := rfl
@[simp] theorem ex_brk (σ h) : ex C fuel .brk σ h = some (.bk, σ, h) := rfl
@[simp] theorem ex_cnt (σ h) : ex C fuel .cnt σ h = some (.ct, σ, h) := rfl
@[simp] theorem ex_pass (σ h) : ex C fuel .pass σ h = some (.nx, σ, h) := rfl
def kRaise (σ : Sl) : D × AH → Rs := fun p => match p.1 with
  | .int n => some (.rt (.rol [.int n]), σ, p.2)
  | _ => none
@[simp] theorem kRaise_ap (σ n h) : kRaise σ (.int n, h) = some (.rt (.rol [.int n]), σ, h) := rfl
@[simp] theorem ex_raise (e σ h) : ex C fuel (.raise e) σ h = (ev C e σ h).bind (kRaise σ) := rfl
def kRetV (σ : Sl) : D × AH → Rs := fun p => match p.1 with
  | .rol _ => none
  | d => some (.rt d, σ, p.2)
@[simp] theorem ex_retV (e σ h) : ex C fuel (.retV e) σ h = (ev C e σ h).bind (kRetV σ) := rfl
theorem kRetV_ap {σ d h} (q : ∀ ds, d ≠ .rol ds) : kRetV σ (d, h) = some (.rt d, σ, h) := by
  cases d with
  | rol ds => exact absurd rfl (q ds)
  | _ => rfl
def kTry3 (t1 t2 : String) (σ : Sl) : D × AH → Rs := fun p => match p.1 with
  | .rol [.int n] => some (.rt (.tup [.str t2, .int n]), σ, p.2)
  | .rol _ => none
  | d => some (.rt (.tup [.str t1, d]), σ, p.2)
@[simp] theorem kTry3_x (t1 t2 σ n h) : kTry3 t1 t2 σ (.rol [.int n], h) = some (.rt (.tup [.str t2, .int n]), σ, h) := rfl
theorem kTry3_ap {t1 t2 σ d h} (q : ∀ ds, d ≠ .rol ds) : kTry3 t1 t2 σ (d, h) = some (.rt (.tup [.str t1, d]), σ, h) := by
  cases d with
  | rol ds => exact absurd rfl (q ds)
  | _ => rfl
theorem ex_tryC (t1 f as ks t2 σ h) : ex C fuel (.tryC t1 f as ks t2) σ h = (evs C as σ h).bind fun p => (evs C ks σ p.2).bind fun q => (callC (C f) (p.1 ++ q.1) q.2).bind (kTry3 t1 t2 σ) := rfl
def kSeq (ss : Ss) : Fl × Sl × AH → Rs := fun p => match p.1 with
  | .nx => exs C fuel ss p.2.1 p.2.2
  | f => some (f, p.2.1, p.2.2)
@[simp] theorem exs_nil (σ h) : exs C fuel .nil σ h = some (.nx, σ, h) := rfl
@[simp] theorem exs_cons (s ss σ h) : exs C fuel (.cons s ss) σ h = (ex C fuel s σ h).bind (kSeq C fuel ss) := by
  simp only [exs]
  congr 1
@[simp] theorem kSeq_nx (ss σ h) : kSeq C fuel ss (.nx, σ, h) = exs C fuel ss σ h := rfl
@[simp] theorem kSeq_rt (ss d σ h) : kSeq C fuel ss (.rt d, σ, h) = some (.rt d, σ, h) := rfl
@[simp] theorem kSeq_bk (ss σ h) : kSeq C fuel ss (.bk, σ, h) = some (.bk, σ, h) := rfl
@[simp] theorem kSeq_ct (ss σ h) : kSeq C fuel ss (.ct, σ, h) = some (.ct, σ, h) := rfl
def kRun (m : Bool) (n : Nat) : Fl × Sl × AH → Rd2 := fun p => match p.1 with
    | .nx => fin m n .non p.2.2
    | .rt d => fin m n d p.2.2
    | _ => none
@[simp] theorem kRun_nx (m n σ h) : kRun m n (.nx, σ, h) = fin m n .non h := rfl
@[simp] theorem kRun_rt (m n d σ h) : kRun m n (.rt d, σ, h) = fin m n d h := rfl
theorem run_eq (m n b ds h) : run C m fuel n b ds h = (exs C fuel b (ds.map some ++ List.replicate (n - ds.length) none) h).bind (kRun m h.length) := rfl
end
theorem tab_step {L : List Df} {fuel k i : Nat} {d : Df} (h : L[i]? = some d) (ds : List D) (hp : AH) :
    tabF L fuel (k + 1) i ds hp = (exs (tabF L fuel k) fuel d.b (ds.map some ++ List.replicate (d.N.length - ds.length) none) hp).bind (kRun d.m hp.length) := by
  simp only [tabF, h]; rfl
/-! ### operations -/
section
variable {h : AH} {i j : Int} {xs ys : List D} {s t : String}
@[simp] theorem truth_bl (b) : truth (.bl b) h = some b := rfl
@[simp] theorem truth_non : truth .non h = some false := rfl
@[simp] theorem truth_int : truth (.int i) h = some (i != 0) := rfl
@[simp] theorem add_i : binop .add (.int i) (.int j) = some (.int (i + j)) := rfl
@[simp] theorem sub_i : binop .sub (.int i) (.int j) = some (.int (i - j)) := rfl
theorem mul_i (hj : (-(2 ^ 64) < i ∧ i < 2 ^ 64) ∨ (-(2 ^ 64) < j ∧ j < 2 ^ 64)) : binop .mul (.int i) (.int j) = some (.int (i * j)) := if_pos hj
theorem fdiv_i (h1 : 0 < j) (h2 : j < 1073741824) : binop .fdiv (.int i) (.int j) = some (.int (i / j)) := if_pos ⟨h1, h2⟩
theorem mod_i (h1 : 0 < j) : binop .mod (.int i) (.int j) = some (.int (i % j)) := if_pos h1
@[simp] theorem lt_i : cmpop .lt (.int i) (.int j) h = some (decide (i < j)) := rfl
@[simp] theorem le_i : cmpop .le (.int i) (.int j) h = some (decide (i ≤ j)) := rfl
@[simp] theorem gt_i : cmpop .gt (.int i) (.int j) h = some (decide (j < i)) := rfl
@[simp] theorem ge_i : cmpop .ge (.int i) (.int j) h = some (decide (j ≤ i)) := rfl
@[simp] theorem eq_i : cmpop .eq (.int i) (.int j) h = some (i == j) := rfl
@[simp] theorem eq_s : cmpop .eq (.str s) (.str t) h = some (s == t) := rfl
@[simp] theorem eq_b (a b) : cmpop .eq (.bl a) (.bl b) h = some (a == b) := rfl
@[simp] theorem ne_i : cmpop .ne (.int i) (.int j) h = some (!(i == j)) := rfl
@[simp] theorem ne_s : cmpop .ne (.str s) (.str t) h = some (!(s == t)) := rfl
@[simp] theorem is_non (d) : cmpop .is d .non h = some (match d with | .non => true | _ => false) := by cases d <;> rfl
@[simp] theorem isnot_non (d) : cmpop .isnot d .non h = some (match d with | .non => false | _ => true) := by cases d <;> rfl
@[simp] theorem is_bl (d b) : cmpop .is d (.bl b) h = some (match d with | .bl c => c == b | _ => false) := by cases d <;> rfl
theorem isin_tup {a} : cmpop .isin a (.tup xs) h = if flat a && xs.all flat then some (xs.any fun y => beqD y a) else none := rfl
theorem isin_strs {ks : List String} : cmpop .isin (.str s) (.tup (ks.map .str)) h = some (ks.any fun y => y == s) := by
  rw [isin_tup, if_pos]
  · congr 1
    induction ks with
    | nil => rfl
    | cons a l ih => simp only [List.map_cons, List.any_cons, ih]; rfl
  · simp only [flat, Bool.true_and]
    induction ks with
    | nil => rfl
    | cons a l ih => simp only [List.map_cons, List.all_cons, ih]; rfl
@[simp] theorem items_tup : items (.tup xs) h = some xs := rfl
@[simp] theorem items_lst : items (.lst xs) h = some xs := rfl
@[simp] theorem items_rol : items (.rol xs) h = some xs := rfl
theorem items_ref {n : Nat} (e : h[n]? = some (.lst xs)) : items (.ref n) h = some xs := by simp only [items, e]
@[simp] theorem litems_lst : litems (.lst xs) h = some xs := rfl
@[simp] theorem litems_rol : litems (.rol xs) h = some xs := rfl
theorem litems_ref {n : Nat} (e : h[n]? = some (.lst xs)) : litems (.ref n) h = some xs := by simp only [litems, e]
@[simp] theorem lit0 (xs r) : litems (.ref 0) (.lst xs :: r) = some xs := rfl
@[simp] theorem lit1 (x xs r) : litems (.ref 1) (x :: .lst xs :: r) = some xs := rfl
@[simp] theorem lit2 (x y xs r) : litems (.ref 2) (x :: y :: .lst xs :: r) = some xs := rfl
theorem index_at {d x : D} {n : Nat} (e : items d h = some xs) (hx : xs[n]? = some x) : index d (.int n) h = some x := by
  have hl := (List.getElem?_eq_some_iff.mp hx).1
  have : place xs.length (n : Int) = some n := by
    unfold place
    rw [if_pos (by omega), if_pos (by omega)]
    simp
  simp only [index, e, Option.bind_some, this, hx]
@[simp] theorem ix0 (x) : index (.tup (x :: xs)) (.int 0) h = some x := index_at (n := 0) rfl rfl
@[simp] theorem ix1 (x y) : index (.tup (x :: y :: xs)) (.int 1) h = some y := index_at (n := 1) rfl rfl
@[simp] theorem ix2 (x y z) : index (.tup (x :: y :: z :: xs)) (.int 2) h = some z := index_at (n := 2) rfl rfl
@[simp] theorem jx0 (x) : index (.lst (x :: xs)) (.int 0) h = some x := index_at (n := 0) rfl rfl
@[simp] theorem jx1 (x y) : index (.lst (x :: y :: xs)) (.int 1) h = some y := index_at (n := 1) rfl rfl
@[simp] theorem rx0 (x r) : index (.ref 0) (.int 0) (.lst (x :: xs) :: r) = some x := index_at (n := 0) (xs := x :: xs) rfl rfl
@[simp] theorem rx1 (x y r) : index (.ref 0) (.int 1) (.lst (x :: y :: xs) :: r) = some y := index_at (n := 1) (xs := x :: y :: xs) rfl rfl
@[simp] theorem sx0 (σ d x r) : kSx3 σ d (.ref 0) (.int 0, .lst (x :: xs) :: r) = some (.nx, σ, .lst (d :: xs) :: r) := kSx3_ap (ds := x :: xs) (j := 0) rfl (by simp [place])
@[simp] theorem sx1 (σ d x y r) : kSx3 σ d (.ref 0) (.int 1, .lst (x :: y :: xs) :: r) = some (.nx, σ, .lst (x :: d :: xs) :: r) := kSx3_ap (ds := x :: y :: xs) (j := 1) rfl (by simp [place]; omega)
@[simp] theorem len_tup : bltf .len [.tup xs] h = some (.int xs.length) := rfl
@[simp] theorem len_lst : bltf .len [.lst xs] h = some (.int xs.length) := rfl
@[simp] theorem len_rol : bltf .len [.rol xs] h = some (.int xs.length) := rfl
theorem len_ref {n : Nat} (e : h[n]? = some (.lst xs)) : bltf .len [.ref n] h = some (.int xs.length) := by simp only [bltf, items_ref e]; rfl
@[simp] theorem blt_abs : bltf .abs [.int i] h = some (.int (if i < 0 then -i else i)) := rfl
@[simp] theorem blt_int : bltf .int [.int i] h = some (.int i) := rfl
@[simp] theorem blt_min : bltf .min [.int i, .int j] h = some (.int (if j < i then j else i)) := rfl
@[simp] theorem blt_max : bltf .max [.int i, .int j] h = some (.int (if j > i then j else i)) := rfl
@[simp] theorem blt_tup_lst : bltf .tuple [.lst xs] h = some (.tup xs) := rfl
theorem rng_n {n : Nat} (hn : n ≤ 1000000) : rng 0 n = some ((List.range n).map fun i => .int (i : Nat)) := by
  unfold rng
  rw [if_pos ⟨by omega, by omega, by omega, by omega⟩]
  simp
@[simp] theorem isTy_t1 : isTy (.tup xs) .tuple = true := rfl
@[simp] theorem cut1 (x : D) : cut (x :: xs) (some 1) none = xs := by
  have : bnd (x :: xs).length 0 (some 1) = 1 := by
    simp [bnd]
  have h2 : bnd (x :: xs).length (x :: xs).length none = (x :: xs).length := rfl
  unfold cut
  rw [this, h2]
  simp
end
/-! ### calls -/
theorem args_of {ds : List D} (h : closeds ds = true) : argsOk ds = true := by
  unfold argsOk
  rw [List.all_eq_true]
  intro d hd
  have : closed d = true := by
    induction ds with
    | nil => cases hd
    | cons a l ih =>
      simp only [closeds, Bool.and_eq_true] at h
      rcases List.mem_cons.mp hd with rfl | hd
      · exact h.1
      · exact ih h.2 hd
  cases d with
  | fn x => rfl
  | _ => exact this
theorem callA {φ : Fun} {ds : List D} {d : D} {h : AH} (hc : argsOk ds = true) (he : φ ds [] = some (d, [])) (hd : closed d = true) : callC φ ds h = some (d, h) := by
  cases ds with
  | nil => simp [callC, he, hd, hc]
  | cons x r =>
    cases x with
    | ref n => simp [argsOk, argOk, closed] at hc
    | _ => simp [callC, he, hd, hc]
theorem callV {φ : Fun} {ds : List D} {d : D} {h : AH} (hc : closeds ds = true) (he : φ ds [] = some (d, [])) (hd : closed d = true) : callC φ ds h = some (d, h) := callA (args_of hc) he hd
theorem callM {φ : Fun} {ds es : List D} {h : AH} (hc : closeds ds = true) (he : φ ds [] = some (.ref 0, [.lst es])) (hd : closeds es = true) : callC φ ds h = some (.ref h.length, h ++ [.lst es]) := by
  have hc := args_of hc
  cases ds with
  | nil => simp [callC, he, hd, hc]
  | cons x r =>
    cases x with
    | ref n => simp [argsOk, argOk, closed] at hc
    | _ => simp [callC, he, hd, hc]
theorem callO {φ : Fun} {ds es es' : List D} {d : D} {h : AH} {r : Nat} (hr : h[r]? = some (.lst es)) (hc : closeds ds = true) (hs : closeds es = true) (he : φ (.ref 0 :: ds) [.lst es] = some (d, [.lst es'])) (hd : closed d = true) (hd2 : closeds es' = true) :
    callC φ (.ref r :: ds) h = some (d, h.set r (.lst es')) := by
  simp [callC, he, hd, hc, hr, hs, hd2]
/-! ### refs -/
mutual
theorem mapR_c {g : Nat → Option D} : ∀ (d : D), closed d = true → mapR g d = some d
  | .non, _ => rfl
  | .bl _, _ => rfl
  | .int _, _ => rfl
  | .str _, _ => rfl
  | .tup ds, c => by simp only [mapR, mapRs_c ds c, Option.map_some]
  | .lst ds, c => by simp only [mapR, mapRs_c ds c, Option.map_some]
  | .rol ds, c => by simp only [mapR, mapRs_c ds c, Option.map_some]
  | .ref _, c => by simp [closed] at c
theorem mapRs_c {g : Nat → Option D} : ∀ (ds : List D), closeds ds = true → mapRs g ds = some ds
  | [], _ => rfl
  | d :: ds, c => by
    simp only [closeds, Bool.and_eq_true] at c
    simp only [mapRs, mapR_c d c.1, mapRs_c ds c.2, Option.bind_some, Option.map_some]
end
@[simp] theorem closed_i (i) : closed (.int i) = true := rfl
@[simp] theorem closed_b (i) : closed (.bl i) = true := rfl
@[simp] theorem closed_s (i) : closed (.str i) = true := rfl
@[simp] theorem closed_n : closed .non = true := rfl
@[simp] theorem closed_t (ds) : closed (.tup ds) = closeds ds := rfl
@[simp] theorem closed_l (ds) : closed (.lst ds) = closeds ds := rfl
@[simp] theorem closed_r (ds) : closed (.rol ds) = closeds ds := rfl
@[simp] theorem closeds_nil : closeds [] = true := rfl
@[simp] theorem closeds_cons (d ds) : closeds (d :: ds) = (closed d && closeds ds) := rfl
theorem closeds_map {α : Type} (f : α → D) (hf : ∀ a, closed (f a) = true) : ∀ l : List α, closeds (l.map f) = true
  | [] => rfl
  | a :: l => by simp [hf a, closeds_map f hf l]
theorem closeds_all {ds : List D} (h : ∀ d ∈ ds, closed d = true) : closeds ds = true := by
  induction ds with
  | nil => rfl
  | cons d ds ih => simp [h d (by simp), ih fun e he => h e (by simp [he])]
theorem closeds_mem : ∀ {ds : List D} {d : D}, closeds ds = true → d ∈ ds → closed d = true
  | e :: ds, d, h, m => by
    simp only [closeds_cons, Bool.and_eq_true] at h
    rcases List.mem_cons.mp m with z | z
    · subst z; exact h.1
    · exact closeds_mem h.2 z
theorem fin_0 {d : D} (hd : closed d = true) : fin false 0 d [] = some (d, []) := by
  simp [fin, mapR_c d hd]
/-- on no objects, whatever was made meanwhile -/
theorem fin_v {d : D} {h : AH} (hd : closed d = true) : fin false 0 d h = some (d, []) := by
  simp [fin, mapR_c d hd]
theorem fin_o {d : D} {es : List D} {h : AH} (hd : closed d = true) (he : closeds es = true) : fin false 1 d (.lst es :: h) = some (d, [.lst es]) := by
  simp [fin, mapR_c d hd, closedO, he]
theorem fin_m {es : List D} (he : closeds es = true) : fin true 0 (.ref 0) [.lst es] = some (.ref 0, [.lst es]) := by
  simp [fin, mapRs_c es he]
/-! ### loops -/
/-- while, by a measure -/
theorem while_ok {c : Sl → AH → Option (Bool × AH)} {b : Sl → AH → Option (Fl × Sl × AH)} (I : Nat → Sl → AH → Prop) (P : Fl → Sl → AH → Prop)
    (step : ∀ n σ h, I n σ h → (∃ h1, c σ h = some (false, h1) ∧ P .nx σ h1) ∨ (∃ h1 f σ2 h2, c σ h = some (true, h1) ∧ b σ h1 = some (f, σ2, h2) ∧ (match f with
      | .nx => ∃ n', n' < n ∧ I n' σ2 h2
      | .ct => ∃ n', n' < n ∧ I n' σ2 h2
      | .bk => P .nx σ2 h2
      | .rt d => P (.rt d) σ2 h2))) :
    ∀ (fuel n : Nat) (σ : Sl) (h : AH), n < fuel → I n σ h → ∃ f σ' h', whileF c b fuel σ h = some (f, σ', h') ∧ P f σ' h'
  | 0, n, _, _, hn, _ => by omega
  | fuel + 1, n, σ, h, hn, hi => by
    rcases step n σ h hi with ⟨h1, e, p⟩ | ⟨h1, f, σ2, h2, e, eb, p⟩
    · exact ⟨.nx, σ, h1, by simp [whileF, e], p⟩
    · cases f with
      | nx =>
        obtain ⟨n', hn', i2⟩ := p
        obtain ⟨f, σ', h', e', p⟩ := while_ok I P step fuel n' σ2 h2 (by omega) i2
        exact ⟨f, σ', h', by simp [whileF, e, eb, e'], p⟩
      | ct =>
        obtain ⟨n', hn', i2⟩ := p
        obtain ⟨f, σ', h', e', p⟩ := while_ok I P step fuel n' σ2 h2 (by omega) i2
        exact ⟨f, σ', h', by simp [whileF, e, eb, e'], p⟩
      | bk => exact ⟨.nx, σ2, h2, by simp [whileF, e, eb], p⟩
      | rt d => exact ⟨.rt d, σ2, h2, by simp [whileF, e, eb], p⟩
/-- a walk over values -/
theorem for_ok {tg : Tg} {len : Nat} {b : Sl → AH → Option (Fl × Sl × AH)} (I : List D → Nat → Sl → AH → Prop) (P : Fl → Sl → AH → Prop)
    (done : ∀ i σ h, I [] i σ h → P .nx σ h)
    (step : ∀ x xs i σ h, I (x :: xs) i σ h → ∃ σ1, put tg x σ = some σ1 ∧ ∃ f σ2 h2, b σ1 h = some (f, σ2, h2) ∧ (match f with
      | .nx => I xs (i + 1) σ2 h2
      | .ct => I xs (i + 1) σ2 h2
      | .bk => P .nx σ2 h2
      | .rt d => P (.rt d) σ2 h2)) :
    ∀ (xs : List D) (i : Nat) (σ : Sl) (h : AH), I xs i σ h → ∃ f σ' h', forL tg none len b xs i σ h = some (f, σ', h') ∧ P f σ' h'
  | [], i, σ, h, hi => ⟨.nx, σ, h, by simp [forL, okL], done i σ h hi⟩
  | x :: xs, i, σ, h, hi => by
    obtain ⟨σ1, e1, f, σ2, h2, e2, p⟩ := step x xs i σ h hi
    cases f with
    | nx =>
      obtain ⟨f, σ', h', e', p⟩ := for_ok (len := len) I P done step xs (i + 1) σ2 h2 p
      exact ⟨f, σ', h', by simp [forL, okL, cur, e1, e2, e'], p⟩
    | ct =>
      obtain ⟨f, σ', h', e', p⟩ := for_ok (len := len) I P done step xs (i + 1) σ2 h2 p
      exact ⟨f, σ', h', by simp [forL, okL, cur, e1, e2, e'], p⟩
    | bk => exact ⟨.nx, σ2, h2, by simp [forL, okL, cur, e1, e2], p⟩
    | rt d => exact ⟨.rt d, σ2, h2, by simp [forL, okL, cur, e1, e2], p⟩
@[simp] theorem wipe_nil (σ) : wipe σ [] = σ := rfl
@[simp] theorem wipe_cons (σ v vs) : wipe σ (v :: vs) = (wipe σ vs).set v none := rfl
section
variable (σ : Sl) (tg : Tg) (len : Nat) (c : Sl → AH → Option (Bool × AH)) (e : Sl → AH → Option (D × AH))
def kC4 (d : D) : List D × AH → Option (List D × AH) := fun p => some (d :: p.1, p.2)
def kC3 (xs : List D) (i : Nat) : D × AH → Option (List D × AH) := fun p => (compL σ tg none len c e xs (i + 1) p.2).bind (kC4 p.1)
def kC2 (xs : List D) (i : Nat) (σ1 : Sl) : Bool × AH → Option (List D × AH) := fun p => if p.1 then (e σ1 p.2).bind (kC3 σ tg len c e xs i) else compL σ tg none len c e xs (i + 1) p.2
def kC1 (xs : List D) (i : Nat) (h : AH) (σ1 : Sl) : Option (List D × AH) := (c σ1 h).bind (kC2 σ tg len c e xs i σ1)
@[simp] theorem compL_nil (i h) : compL σ tg none len c e [] i h = some ([], h) := by simp [compL, okL]
@[simp] theorem compL_cons (x xs i h) : compL σ tg none len c e (x :: xs) i h = (put tg x σ).bind (kC1 σ tg len c e xs i h) := by
  simp only [compL, okL, cur, if_true, Option.bind_some]
  rfl
@[simp] theorem kC1_ap (xs i h σ1) : kC1 σ tg len c e xs i h σ1 = (c σ1 h).bind (kC2 σ tg len c e xs i σ1) := rfl
@[simp] theorem kC2_t (xs i σ1 h) : kC2 σ tg len c e xs i σ1 (true, h) = (e σ1 h).bind (kC3 σ tg len c e xs i) := rfl
@[simp] theorem kC2_f (xs i σ1 h) : kC2 σ tg len c e xs i σ1 (false, h) = compL σ tg none len c e xs (i + 1) h := rfl
@[simp] theorem kC3_ap (xs i d h) : kC3 σ tg len c e xs i (d, h) = (compL σ tg none len c e xs (i + 1) h).bind (kC4 d) := rfl
@[simp] theorem kC4_ap (d ds h) : kC4 d (ds, h) = some (d :: ds, h) := rfl
end
theorem place_nat {n m : Nat} (h : m < n) : place n (m : Int) = some m := by
  unfold place
  rw [if_pos (by omega), if_pos (by omega)]
  simp
@[simp] theorem put_v (i d σ) : put (.v i) d σ = some (σ.set i (some d)) := rfl
@[simp] theorem put_t (ts ds σ) : put (.t ts) (.tup ds) σ = puts ts ds σ := rfl
@[simp] theorem puts_nil (σ) : puts .nil [] σ = some σ := rfl
def kPuts (ts : Tgs) (ds : List D) (σ : Sl) : Option Sl := puts ts ds σ
@[simp] theorem puts_cons (t ts d ds σ) : puts (.cons t ts) (d :: ds) σ = (put t d σ).bind (kPuts ts ds) := rfl
@[simp] theorem kPuts_ap (ts ds σ) : kPuts ts ds σ = puts ts ds σ := rfl
end PyD

/-! PyDC: more of the same: places, parts, loops by place, comprehensions. -/
namespace PyD
variable {h : AH} {xs : List D}
@[simp] theorem ix3 (a b c d) : index (.tup (a :: b :: c :: d :: xs)) (.int 3) h = some d := index_at (n := 3) rfl rfl
@[simp] theorem ix4 (a b c d e) : index (.tup (a :: b :: c :: d :: e :: xs)) (.int 4) h = some e := index_at (n := 4) rfl rfl
@[simp] theorem ix5 (a b c d e f) : index (.tup (a :: b :: c :: d :: e :: f :: xs)) (.int 5) h = some f := index_at (n := 5) rfl rfl
@[simp] theorem ix6 (a b c d e f g) : index (.tup (a :: b :: c :: d :: e :: f :: g :: xs)) (.int 6) h = some g := index_at (n := 6) rfl rfl
@[simp] theorem ix7 (a b c d e f g i) : index (.tup (a :: b :: c :: d :: e :: f :: g :: i :: xs)) (.int 7) h = some i := index_at (n := 7) rfl rfl
@[simp] theorem ix8 (a b c d e f g i j) : index (.tup (a :: b :: c :: d :: e :: f :: g :: i :: j :: xs)) (.int 8) h = some j := index_at (n := 8) rfl rfl
@[simp] theorem ixm1 (a) : index (.tup [a]) (.int (-1)) h = some a := by
  simp [index, place]
@[simp] theorem tup_r0 (xs r) : bltf .tuple [.ref 0] (.lst xs :: r) = some (.tup xs) := rfl
@[simp] theorem tup_r1 (x xs r) : bltf .tuple [.ref 1] (x :: .lst xs :: r) = some (.tup xs) := rfl
@[simp] theorem tup_tup (xs) : bltf .tuple [.tup xs] h = some (.tup xs) := rfl
@[simp] theorem len_r0 (xs r) : bltf .len [.ref 0] (.lst xs :: r) = some (.int (xs.length : Nat)) := rfl
@[simp] theorem len_r1 (x xs r) : bltf .len [.ref 1] (x :: .lst xs :: r) = some (.int (xs.length : Nat)) := rfl
@[simp] theorem len_r2 (x y xs r) : bltf .len [.ref 2] (x :: y :: .lst xs :: r) = some (.int (xs.length : Nat)) := rfl
theorem add_t {xs ys : List D} (hl : xs.length + ys.length ≤ lim) : binop .add (.tup xs) (.tup ys) = some (.tup (xs ++ ys)) := if_pos hl
theorem mul_t {x : D} {n : Nat} (hn : n ≤ 1000) : binop .mul (.tup [x]) (.int n) = some (.tup (List.replicate n x)) := by
  show (if -1000 ≤ (n : Int) ∧ (n : Int) ≤ 1000 ∧ [x].length ≤ 1000 then some (D.tup (List.replicate (n : Int).toNat [x]).flatten) else none) = _
  rw [if_pos ⟨by omega, by omega, by simp⟩]
  simp
theorem cut_to {n : Nat} (hn : n ≤ xs.length) : cut xs none (some (n : Int)) = xs.take n := by
  have h1 : bnd xs.length xs.length (some (n : Int)) = n := by
    show (if (n : Int) < 0 then ((n : Int) + xs.length).toNat else min (n : Int).toNat xs.length) = n
    rw [if_neg (by omega)]
    simp [Nat.min_eq_left hn]
  have h2 : bnd xs.length 0 none = 0 := rfl
  unfold cut
  rw [h1, h2]; simp
theorem cut_from {n : Nat} (hn : n ≤ xs.length) : cut xs (some (n : Int)) none = xs.drop n := by
  have h1 : bnd xs.length 0 (some (n : Int)) = n := by
    show (if (n : Int) < 0 then ((n : Int) + xs.length).toNat else min (n : Int).toNat xs.length) = n
    rw [if_neg (by omega)]
    simp [Nat.min_eq_left hn]
  have h2 : bnd xs.length xs.length none = xs.length := rfl
  unfold cut
  rw [h1, h2, List.take_of_length_le]
  simp
@[simp] theorem cut_m1 (a : D) : cut [a] none (some (-1)) = [] := by
  simp [cut, bnd]
/-- l.append(x) on the n-th list -/
theorem app_r0 {ds r y} (hl : ds.length < lim) : kApp2 (.ref 0) (y, .lst ds :: r) = some (.non, .lst (ds ++ [y]) :: r) := by
  rw [kApp2_ap (ds := ds) rfl hl]; rfl
theorem app_r1 {x ds r y} (hl : ds.length < lim) : kApp2 (.ref 1) (y, x :: .lst ds :: r) = some (.non, x :: .lst (ds ++ [y]) :: r) := by
  rw [kApp2_ap (ds := ds) rfl hl]; rfl
theorem app_r2 {x z ds r y} (hl : ds.length < lim) : kApp2 (.ref 2) (y, x :: z :: .lst ds :: r) = some (.non, x :: z :: .lst (ds ++ [y]) :: r) := by
  rw [kApp2_ap (ds := ds) rfl hl]; rfl
/-- a walk over values, by place -/
theorem for_ix {tg : Tg} {len : Nat} {b : Sl → AH → Option (Fl × Sl × AH)} (L : List D) (I : Nat → Sl → AH → Prop) (P : Fl → Sl → AH → Prop)
    (done : ∀ σ h, I L.length σ h → P .nx σ h)
    (step : ∀ m x σ h, L[m]? = some x → I m σ h → ∃ σ1, put tg x σ = some σ1 ∧ ∃ f σ2 h2, b σ1 h = some (f, σ2, h2) ∧ (match f with
      | .nx => I (m + 1) σ2 h2
      | .ct => I (m + 1) σ2 h2
      | .bk => P .nx σ2 h2
      | .rt d => P (.rt d) σ2 h2)) (σ : Sl) (h : AH) (hi : I 0 σ h) : ∃ f σ' h', forL tg none len b L 0 σ h = some (f, σ', h') ∧ P f σ' h' :=
  for_ok (fun xs i σ h => ∃ m, xs = L.drop m ∧ m ≤ L.length ∧ I m σ h) P
    (fun i σ h ⟨m, e, hm, q⟩ => done σ h (by
      have := congrArg List.length e
      simp at this
      have : m = L.length := by omega
      rw [← this]; exact q))
    (fun x xs i σ h ⟨m, e, hm, q⟩ => by
      have hl : m < L.length := by
        have := congrArg List.length e
        simp at this; omega
      rw [List.drop_eq_getElem_cons hl, List.cons.injEq] at e
      obtain ⟨σ1, e1, f, σ2, h2, e2, p⟩ := step m x σ h (by rw [List.getElem?_eq_getElem hl, e.1]) q
      refine ⟨σ1, e1, f, σ2, h2, e2, ?_⟩
      cases f with
      | nx => exact ⟨m + 1, e.2, hl, p⟩
      | ct => exact ⟨m + 1, e.2, hl, p⟩
      | bk => exact p
      | rt d => exact p)
    L 0 σ h ⟨0, rfl, Nat.zero_le _, hi⟩
/-- a walk over values, each alike -/
theorem for_all {tg : Tg} {len : Nat} {b : Sl → AH → Option (Fl × Sl × AH)} (L : List D) (I : Sl → AH → Prop) (P : Fl → Sl → AH → Prop)
    (done : ∀ σ h, I σ h → P .nx σ h)
    (step : ∀ x ∈ L, ∀ σ h, I σ h → ∃ σ1, put tg x σ = some σ1 ∧ ∃ f σ2 h2, b σ1 h = some (f, σ2, h2) ∧ (match f with
      | .nx => I σ2 h2
      | .ct => I σ2 h2
      | .bk => P .nx σ2 h2
      | .rt d => P (.rt d) σ2 h2)) (σ : Sl) (h : AH) (hi : I σ h) : ∃ f σ' h', forL tg none len b L 0 σ h = some (f, σ', h') ∧ P f σ' h' :=
  for_ix L (fun _ => I) P done (fun m x σ h e q => step x (List.mem_of_getElem? e) σ h q) σ h hi
/-- a comprehension, each item told -/
theorem compL_map {σ : Sl} {tg : Tg} {len : Nat} {c : Sl → AH → Option (Bool × AH)} {e : Sl → AH → Option (D × AH)} {h : AH} (p : D → Bool) (f : D → D) : ∀ (L : List D) (i : Nat),
    (∀ x ∈ L, ∃ σ1, put tg x σ = some σ1 ∧ c σ1 h = some (p x, h) ∧ (p x = true → e σ1 h = some (f x, h))) → compL σ tg none len c e L i h = some ((L.filter p).map f, h)
  | [], i, _ => by simp
  | x :: L, i, q => by
    obtain ⟨σ1, e1, e2, e3⟩ := q x (by simp)
    have ih := compL_map (len := len) p f L (i + 1) fun y hy => q y (by simp [hy])
    cases hp : p x with
    | true => simp [e1, e2, hp, e3 hp, ih]
    | false => simp [e1, e2, hp, ih]
/-- a comprehension, its items drawn one by one -/
theorem compL_ok {σ : Sl} {tg : Tg} {len : Nat} {c : Sl → AH → Option (Bool × AH)} {e : Sl → AH → Option (D × AH)} (I : AH → Prop) (Q : D → Prop) : ∀ (L : List D) (i : Nat) (h : AH),
    (∀ x ∈ L, ∀ h, I h → ∃ σ1, put tg x σ = some σ1 ∧ c σ1 h = some (true, h) ∧ ∃ d h2, e σ1 h = some (d, h2) ∧ I h2 ∧ Q d) → I h →
    ∃ ds h', compL σ tg none len c e L i h = some (ds, h') ∧ I h' ∧ ds.length = L.length ∧ ∀ d ∈ ds, Q d
  | [], i, h, _, hi => ⟨[], h, by simp, hi, rfl, fun d hd => by cases hd⟩
  | x :: L, i, h, q, hi => by
    obtain ⟨σ1, e1, e2, d, h2, e3, i2, qd⟩ := q x (by simp) h hi
    obtain ⟨ds, h', e4, i4, l4, q4⟩ := compL_ok (len := len) I Q L (i + 1) h2 (fun y hy => q y (by simp [hy])) i2
    refine ⟨d :: ds, h', by simp [e1, e2, e3, e4], i4, by simp [l4], fun y hy => ?_⟩
    rcases List.mem_cons.mp hy with rfl | hy
    · exact qd
    · exact q4 y hy
/-- items of a kind -/
theorem list_of {α : Type} (f : α → D) (P : α → Prop) : ∀ {ds : List D}, (∀ d ∈ ds, ∃ a, d = f a ∧ P a) → ∃ l : List α, ds = l.map f ∧ ∀ a ∈ l, P a
  | [], _ => ⟨[], rfl, fun a h => by cases h⟩
  | d :: ds, q => by
    obtain ⟨a, rfl, pa⟩ := q d (by simp)
    obtain ⟨l, rfl, pl⟩ := list_of f P (ds := ds) fun y hy => q y (by simp [hy])
    exact ⟨a :: l, rfl, fun b hb => by
      rcases List.mem_cons.mp hb with rfl | hb
      · exact pa
      · exact pl b hb⟩
end PyD

namespace PyD.K55
open PyD
abbrev g_NONE : D := (.int 0)
abbrev g_NO : D := (.int 1)
abbrev g_YES : D := (.int 2)
abbrev g_UP : D := (.int 3)
abbrev g_DOWN : D := (.int 4)
abbrev g_TEXT : D := (.int 5)
abbrev g_ROW : D := (.int 6)
abbrev g_SIGNS : D := (.str " !\"#$&'()*+,-./0123456789:;<=>?@ABCDEFGHIJKLMNOPQRSTUVWXYZ[\\]^_`abcdefghijklmnopqrstuvwxyz{|}~")
abbrev g_HOUSE : D := (.int (-1))
abbrev g_WORDS : D := (.tup [(.str "done"), (.str "void")])
abbrev g_PRIME : D := (.int 2305843009213693951)
abbrev g_BASE : D := (.int 1000003)
def b_is_int : Ss :=
 (.cons (.ret (.bop true (.cons (.isi (.var 0) .int) (.cons (.not (.isi (.var 0) .bool)) .nil))))
 .nil)
def d_is_int : Df := ⟨"is_int", 1, ["value"], false, b_is_int, [], [], false⟩
def b_is_number : Ss :=
 (.cons (.ret (.bop true (.cons (.call 0 (.cons (.var 0) .nil)) (.cons (.cmp .ge (.var 0) (.var 1)) (.cons (.bop false (.cons (.cmp .is (.var 2) .non) (.cons (.cmp .le (.var 0) (.var 2)) .nil))) .nil)))))
 .nil)
def d_is_number : Df := ⟨"is_number", 3, ["value", "least", "most"], false, b_is_number, [], [(1, [(.int 0), .non])], false⟩
def b_is_tuple : Ss :=
 (.cons (.ret (.bop true (.cons (.isi (.var 0) .tuple) (.cons (.bop false (.cons (.cmp .is (.var 1) .non) (.cons (.cmp .eq (.blt .len (.cons (.var 0) .nil)) (.var 1)) .nil))) .nil))))
 .nil)
def d_is_tuple : Df := ⟨"is_tuple", 2, ["value", "many"], false, b_is_tuple, [], [(1, [.non])], false⟩
def b_is_numbers : Ss :=
 (.cons (.ret (.bop true (.cons (.call 2 (.cons (.var 0) (.cons (.var 1) .nil))) (.cons (.cmp .eq (.blt .len (.cons (.comp (.var 4) (.v 4) (.seq (.var 0)) (.so (.not (.call 1 (.cons (.var 4) (.cons (.var 2) (.cons (.var 3) .nil)))))) [4]) .nil)) (.int 0)) .nil))))
 .nil)
def d_is_numbers : Df := ⟨"is_numbers", 4, ["value", "many", "least", "most", "one"], false, b_is_numbers, [], [(2, [(.int 0), .non])], false⟩
def b_counted : Ss :=
 (.cons (.set 1 (.fm (.disp .nil)))
 (.cons (.whl (.cmp .gt (.var 0) (.int 127))
 (.cons (.expr (.app (.var 1) (.bin .add (.bin .mod (.var 0) (.int 128)) (.int 128))))
 (.cons (.set 0 (.bin .fdiv (.var 0) (.int 128)))
 .nil)))
 (.cons (.ret (.fv (.cat (.var 1) (.fv (.disp (.cons (.var 0) .nil))))))
 .nil)))
def d_counted : Df := ⟨"counted", 1, ["number", "found"], false, b_counted, [], [], false⟩
def b_packed : Ss :=
 (.cons (.par2 1 2 (.fm (.disp .nil)) (.fm (.disp (.cons (.var 0) .nil))))
 (.cons (.whl (.cmp .gt (.blt .len (.cons (.var 2) .nil)) (.int 0))
 (.cons (.set 3 (.popE (.var 2)))
 (.cons (.ite (.cmp .is (.var 3) .non)
 (.cons (.expr (.app (.var 1) (.glob "NONE" g_NONE)))
 .nil)
 (.cons (.ite (.bop false (.cons (.cmp .is (.var 3) (.bl true)) (.cons (.cmp .is (.var 3) (.bl false)) .nil)))
 (.cons (.expr (.app (.var 1) (.ite (.var 3) (.glob "YES" g_YES) (.glob "NO" g_NO))))
 .nil)
 (.cons (.ite (.call 0 (.cons (.var 3) .nil))
 (.cons (.expr (.ext (.var 1) (.fv (.cat (.fv (.disp (.cons (.ite (.cmp .ge (.var 3) (.int 0)) (.glob "UP" g_UP) (.glob "DOWN" g_DOWN)) .nil))) (.call 4 (.cons (.blt .abs (.cons (.var 3) .nil)) .nil))))))
 .nil)
 (.cons (.ite (.isi (.var 3) .str)
 (.cons (.expr (.ext (.var 1) (.fv (.cat (.fv (.disp (.cons (.glob "TEXT" g_TEXT) .nil))) (.call 4 (.cons (.blt .len (.cons (.var 3) .nil)) .nil))))))
 (.cons (.for_ (.v 4) (.chars (.var 3))
 (.cons (.expr (.app (.var 1) (.sidx "SIGNS" " !\"#$&'()*+,-./0123456789:;<=>?@ABCDEFGHIJKLMNOPQRSTUVWXYZ[\\]^_`abcdefghijklmnopqrstuvwxyz{|}~" (.var 4))))
 .nil))
 .nil))
 (.cons (.expr (.ext (.var 1) (.fv (.cat (.fv (.disp (.cons (.glob "ROW" g_ROW) .nil))) (.call 4 (.cons (.blt .len (.cons (.var 3) .nil)) .nil))))))
 (.cons (.expr (.ext (.var 2) (.fv (.rev (.fv (.ofSeq (.var 3)))))))
 .nil)))
 .nil))
 .nil))
 .nil))
 .nil)))
 (.cons (.ret (.blt .tuple (.cons (.var 1) .nil)))
 .nil)))
def d_packed : Df := ⟨"packed", 1, ["value", "found", "left", "one", "sign"], false, b_packed, [], [], false⟩
def b_is_choice : Ss :=
 (.cons (.ite (.bop false (.cons (.not (.callD 2 (.cons (.var 0) .nil) [.non])) (.cons (.cmp .eq (.blt .len (.cons (.var 0) .nil)) (.int 0)) (.cons (.not (.isi (.idx (.var 0) (.int 0)) .str)) .nil))))
 (.cons (.ret (.bl false))
 .nil)
 .nil)
 (.cons (.ite (.cmp .eq (.idx (.var 0) (.int 0)) (.str "do"))
 (.cons (.ret (.bop true (.cons (.cmp .eq (.blt .len (.cons (.var 0) .nil)) (.int 3)) (.cons (.callD 1 (.cons (.idx (.var 0) (.int 1)) .nil) [(.int 0), .non]) (.cons (.bop false (.cons (.cmp .is (.idx (.var 0) (.int 2)) .non) (.cons (.callD 1 (.cons (.idx (.var 0) (.int 2)) .nil) [(.int 0), .non]) .nil))) .nil)))))
 .nil)
 .nil)
 (.cons (.ite (.cmp .isin (.idx (.var 0) (.int 0)) (.tup (.cons (.str "call") (.cons (.str "pass") .nil))))
 (.cons (.ret (.bop true (.cons (.cmp .eq (.blt .len (.cons (.var 0) .nil)) (.int 2)) (.cons (.callD 1 (.cons (.idx (.var 0) (.int 1)) .nil) [(.int 0), .non]) .nil))))
 .nil)
 .nil)
 (.cons (.ite (.cmp .eq (.idx (.var 0) (.int 0)) (.str "back"))
 (.cons (.ret (.bop true (.cons (.cmp .eq (.blt .len (.cons (.var 0) .nil)) (.int 3)) (.cons (.callD 1 (.cons (.idx (.var 0) (.int 1)) .nil) [(.int 0), .non]) (.cons (.callD 2 (.cons (.idx (.var 0) (.int 2)) .nil) [.non]) .nil)))))
 .nil)
 .nil)
 (.cons (.ret (.bop true (.cons (.cmp .eq (.idx (.var 0) (.int 0)) (.str "change")) (.cons (.cmp .eq (.blt .len (.cons (.var 0) .nil)) (.int 3)) (.cons (.callD 2 (.cons (.idx (.var 0) (.int 2)) .nil) [.non]) .nil)))))
 .nil)))))
def d_is_choice : Df := ⟨"is_choice", 1, ["value"], false, b_is_choice, [], [], false⟩
def b_is_seen : Ss :=
 (.cons (.ite (.bop false (.cons (.not (.callD 2 (.cons (.var 0) .nil) [.non])) (.cons (.cmp .eq (.blt .len (.cons (.var 0) .nil)) (.int 0)) (.cons (.not (.isi (.idx (.var 0) (.int 0)) .str)) .nil))))
 (.cons (.ret (.bl false))
 .nil)
 .nil)
 (.cons (.ite (.cmp .eq (.idx (.var 0) (.int 0)) (.str "do"))
 (.cons (.ret (.bop true (.cons (.cmp .eq (.blt .len (.cons (.var 0) .nil)) (.int 4)) (.cons (.call 6 (.cons (.slc (.var 0) .no (.so (.int 3))) .nil)) (.cons (.callD 2 (.cons (.idx (.var 0) (.int 3)) .nil) [.non]) (.cons (.callD 3 (.cons (.idx (.var 0) (.int 3)) (.cons (.blt .len (.cons (.idx (.var 0) (.int 3)) .nil)) .nil)) [(.int 0), .non]) .nil))))))
 .nil)
 .nil)
 (.cons (.ret (.bop true (.cons (.cmp .isin (.idx (.var 0) (.int 0)) (.tup (.cons (.str "call") (.cons (.str "pass") .nil)))) (.cons (.call 6 (.cons (.var 0) .nil)) .nil))))
 .nil)))
def d_is_seen : Df := ⟨"is_seen", 1, ["value"], false, b_is_seen, [], [], false⟩
def b_is_body : Ss :=
 (.cons (.ite (.bop false (.cons (.not (.callD 2 (.cons (.var 1) .nil) [.non])) (.cons (.cmp .eq (.blt .len (.cons (.var 1) .nil)) (.int 0)) (.cons (.not (.isi (.idx (.var 1) (.int 0)) .str)) .nil))))
 (.cons (.ret (.bl false))
 .nil)
 .nil)
 (.cons (.ite (.cmp .eq (.idx (.var 1) (.int 0)) (.str "done"))
 (.cons (.ret (.bop true (.cons (.cmp .eq (.blt .len (.cons (.var 1) .nil)) (.int 4)) (.cons (.call 1 (.cons (.idx (.var 1) (.int 1)) (.cons (.int 0) (.cons (.bin .sub (.var 0) (.int 1)) .nil)))) (.cons (.callD 1 (.cons (.idx (.var 1) (.int 2)) .nil) [(.int 0), .non]) (.cons (.call 7 (.cons (.idx (.var 1) (.int 3)) .nil)) .nil))))))
 .nil)
 .nil)
 (.cons (.ite (.cmp .eq (.idx (.var 1) (.int 0)) (.str "void"))
 (.cons (.ret (.bop true (.cons (.cmp .eq (.blt .len (.cons (.var 1) .nil)) (.int 3)) (.cons (.call 1 (.cons (.idx (.var 1) (.int 1)) (.cons (.int 0) (.cons (.bin .sub (.var 0) (.int 1)) .nil)))) (.cons (.callD 1 (.cons (.idx (.var 1) (.int 2)) .nil) [(.int 0), .non]) .nil)))))
 .nil)
 .nil)
 (.cons (.ite (.cmp .eq (.idx (.var 1) (.int 0)) (.str "silent"))
 (.cons (.ret (.bop true (.cons (.cmp .eq (.blt .len (.cons (.var 1) .nil)) (.int 2)) (.cons (.call 6 (.cons (.idx (.var 1) (.int 1)) .nil)) (.cons (.cmp .eq (.idx (.idx (.var 1) (.int 1)) (.int 0)) (.str "pass")) .nil)))))
 .nil)
 .nil)
 (.cons (.ite (.cmp .isin (.idx (.var 1) (.int 0)) (.tup (.cons (.str "change") (.cons (.str "back") .nil))))
 (.cons (.ret (.call 9 (.cons (.var 0) (.cons (.var 1) .nil))))
 .nil)
 .nil)
 (.cons (.ret (.cmp .eq (.var 1) (.tup (.cons (.str "dawn") .nil))))
 .nil))))))
def d_is_body : Df := ⟨"is_body", 2, ["many", "value"], false, b_is_body, [], [], false⟩
def b_is_course_body : Ss :=
 (.cons (.ite (.bop false (.cons (.cmp .lt (.blt .len (.cons (.var 1) .nil)) (.int 5)) (.cons (.not (.call 1 (.cons (.idx (.var 1) (.int 1)) (.cons (.int 0) (.cons (.bin .sub (.var 0) (.int 1)) .nil))))) (.cons (.not (.callD 1 (.cons (.idx (.var 1) (.int 2)) .nil) [(.int 0), .non])) .nil))))
 (.cons (.ret (.bl false))
 .nil)
 .nil)
 (.cons (.ite (.bop false (.cons (.not (.isi (.idx (.var 1) (.int 4)) .str)) (.cons (.cmp .notin (.idx (.var 1) (.int 4)) (.glob "WORDS" g_WORDS)) .nil)))
 (.cons (.ret (.bl false))
 .nil)
 .nil)
 (.cons (.ite (.cmp .eq (.idx (.var 1) (.int 0)) (.str "change"))
 (.cons (.ret (.cmp .eq (.blt .len (.cons (.var 1) .nil)) (.int 5)))
 .nil)
 .nil)
 (.cons (.ret (.bop true (.cons (.cmp .eq (.blt .len (.cons (.var 1) .nil)) (.int 6)) (.cons (.callD 1 (.cons (.idx (.var 1) (.int 3)) .nil) [(.int 0), .non]) (.cons (.callD 2 (.cons (.idx (.var 1) (.int 5)) .nil) [.non]) (.cons (.callD 3 (.cons (.idx (.var 1) (.int 5)) (.cons (.blt .len (.cons (.idx (.var 1) (.int 5)) .nil)) .nil)) [(.int 0), .non]) .nil))))))
 .nil))))
def d_is_course_body : Df := ⟨"is_course_body", 2, ["many", "value"], false, b_is_course_body, [], [], false⟩
def b_asked_by : Ss :=
 (.cons (.ret (.ite (.cmp .isin (.idx (.var 0) (.int 0)) (.tup (.cons (.str "done") (.cons (.str "void") (.cons (.str "change") (.cons (.str "back") .nil)))))) (.slc (.var 0) (.so (.int 1)) (.so (.int 3))) .non))
 .nil)
def d_asked_by : Df := ⟨"asked_by", 1, ["body"], false, b_asked_by, [], [], false⟩
def b_is_changing_body : Ss :=
 (.cons (.ite (.cmp .eq (.idx (.var 0) (.int 0)) (.str "done"))
 (.cons (.ret (.cmp .ne (.idx (.idx (.var 0) (.int 3)) (.int 0)) (.str "pass")))
 .nil)
 .nil)
 (.cons (.ret (.bop false (.cons (.cmp .eq (.idx (.var 0) (.int 0)) (.str "dawn")) (.cons (.bop true (.cons (.cmp .isin (.idx (.var 0) (.int 0)) (.tup (.cons (.str "change") (.cons (.str "back") .nil)))) (.cons (.cmp .eq (.idx (.var 0) (.int 4)) (.str "done")) .nil))) .nil))))
 .nil))
def d_is_changing_body : Df := ⟨"is_changing_body", 1, ["body"], false, b_is_changing_body, [], [], false⟩
def b_is_mark : Ss :=
 (.cons (.ret (.callD 3 (.cons (.var 0) (.cons (.int 2) .nil)) [(.int 0), .non]))
 .nil)
def d_is_mark : Df := ⟨"is_mark", 1, ["value"], false, b_is_mark, [], [], false⟩
def b_is_desks_letter : Ss :=
 (.cons (.ite (.bop false (.cons (.not (.callD 2 (.cons (.var 1) .nil) [.non])) (.cons (.cmp .lt (.blt .len (.cons (.var 1) .nil)) (.int 4)) (.cons (.not (.call 1 (.cons (.idx (.var 1) (.int 1)) (.cons (.int 0) (.cons (.bin .sub (.var 0) (.int 1)) .nil))))) (.cons (.not (.callD 1 (.cons (.idx (.var 1) (.int 2)) .nil) [(.int 0), .non])) .nil)))))
 (.cons (.ret (.bl false))
 .nil)
 .nil)
 (.cons (.ite (.cmp .eq (.idx (.var 1) (.int 0)) (.str "ask"))
 (.cons (.ret (.bop true (.cons (.cmp .eq (.blt .len (.cons (.var 1) .nil)) (.int 6)) (.cons (.call 6 (.cons (.idx (.var 1) (.int 3)) .nil)) (.cons (.callD 1 (.cons (.idx (.var 1) (.int 4)) .nil) [(.int 0), .non]) (.cons (.call 12 (.cons (.idx (.var 1) (.int 5)) .nil)) .nil))))))
 .nil)
 .nil)
 (.cons (.ite (.cmp .eq (.idx (.var 1) (.int 0)) (.str "seen"))
 (.cons (.ret (.bop true (.cons (.cmp .eq (.blt .len (.cons (.var 1) .nil)) (.int 4)) (.cons (.call 6 (.cons (.idx (.var 1) (.int 3)) .nil)) .nil))))
 .nil)
 .nil)
 (.cons (.ret (.bop true (.cons (.cmp .eq (.idx (.var 1) (.int 0)) (.str "heard")) (.cons (.cmp .eq (.blt .len (.cons (.var 1) .nil)) (.int 4)) (.cons (.callD 1 (.cons (.idx (.var 1) (.int 3)) .nil) [(.int 0), .non]) .nil)))))
 .nil))))
def d_is_desks_letter : Df := ⟨"is_desks_letter", 2, ["many", "value"], false, b_is_desks_letter, [], [], false⟩
def b_is_agreeing : Ss :=
 (.cons (.ret (.bop true (.cons (.call 2 (.cons (.var 1) (.cons (.int 3) .nil))) (.cons (.cmp .eq (.idx (.var 1) (.int 0)) (.str "agree")) (.cons (.call 1 (.cons (.idx (.var 1) (.int 1)) (.cons (.int 0) (.cons (.bin .sub (.var 0) (.int 1)) .nil)))) .nil)))))
 .nil)
def d_is_agreeing : Df := ⟨"is_agreeing", 2, ["many", "value"], false, b_is_agreeing, [], [], false⟩
def b_is_letter : Ss :=
 (.cons (.ite (.bop false (.cons (.not (.callD 2 (.cons (.var 1) .nil) [.non])) (.cons (.cmp .notin (.blt .len (.cons (.var 1) .nil)) (.tup (.cons (.int 3) (.cons (.int 4) (.cons (.int 6) .nil))))) (.cons (.not (.isi (.idx (.var 1) (.int 0)) .str)) .nil))))
 (.cons (.ret (.bl false))
 .nil)
 .nil)
 (.cons (.ite (.cmp .eq (.blt .len (.cons (.var 1) .nil)) (.int 3))
 (.cons (.ret (.call 14 (.cons (.var 0) (.cons (.var 1) .nil))))
 .nil)
 .nil)
 (.cons (.ite (.cmp .eq (.idx (.var 1) (.int 0)) (.str "row"))
 (.cons (.ret (.bop true (.cons (.cmp .eq (.blt .len (.cons (.var 1) .nil)) (.int 4)) (.cons (.callD 1 (.cons (.idx (.var 1) (.int 1)) .nil) [(.int 0), .non]) (.cons (.call 8 (.cons (.var 0) (.cons (.idx (.var 1) (.int 2)) .nil))) (.cons (.callD 1 (.cons (.idx (.var 1) (.int 3)) .nil) [(.int 0), .non]) .nil))))))
 .nil)
 .nil)
 (.cons (.ite (.cmp .eq (.idx (.var 1) (.int 0)) (.str "took"))
 (.cons (.ret (.bop true (.cons (.cmp .eq (.blt .len (.cons (.var 1) .nil)) (.int 4)) (.cons (.call 1 (.cons (.idx (.var 1) (.int 1)) (.cons (.int 0) (.cons (.bin .sub (.var 0) (.int 1)) .nil)))) (.cons (.callD 3 (.cons (.slc (.var 1) (.so (.int 2)) .no) (.cons (.int 2) .nil)) [(.int 0), .non]) .nil)))))
 .nil)
 .nil)
 (.cons (.ret (.call 13 (.cons (.var 0) (.cons (.var 1) .nil))))
 .nil)))))
def d_is_letter : Df := ⟨"is_letter", 2, ["many", "value"], false, b_is_letter, [(1, ["value"])], [], false⟩
def b_whose_letter : Ss :=
 (.cons (.ret (.ite (.cmp .isin (.idx (.var 0) (.int 0)) (.tup (.cons (.str "row") (.cons (.str "took") .nil)))) (.glob "HOUSE" g_HOUSE) (.idx (.var 0) (.int 1))))
 .nil)
def d_whose_letter : Df := ⟨"whose_letter", 1, ["letter"], false, b_whose_letter, [], [], false⟩
def b_hidden_choice : Ss :=
 (.cons (.ret (.ite (.cmp .eq (.idx (.var 0) (.int 0)) (.str "do")) (.bin .add (.slc (.var 0) .no (.so (.int 2))) (.tup (.cons .non .nil))) (.var 0)))
 .nil)
def d_hidden_choice : Df := ⟨"hidden_choice", 1, ["choice"], false, b_hidden_choice, [], [], false⟩
def b_chained : Ss :=
 (.cons (.for_ (.v 2) (.seq (.call 5 (.cons (.var 1) .nil)))
 (.cons (.set 0 (.bin .mod (.bin .add (.bin .add (.bin .mul (.var 0) (.glob "BASE" g_BASE)) (.var 2)) (.int 1)) (.glob "PRIME" g_PRIME)))
 .nil))
 (.cons (.ret (.var 0))
 .nil))
def d_chained : Df := ⟨"chained", 2, ["ahead", "body", "octet"], false, b_chained, [], [], false⟩
def b_sum_of : Ss :=
 (.cons (.set 1 (.int 0))
 (.cons (.for_ (.v 2) (.seq (.var 0))
 (.cons (.set 1 (.call 18 (.cons (.var 1) (.cons (.var 2) .nil))))
 .nil))
 (.cons (.ret (.var 1))
 .nil)))
def d_sum_of : Df := ⟨"sum_of", 1, ["bodies", "told", "body"], false, b_sum_of, [], [], false⟩
def b_mark_of : Ss :=
 (.cons (.ret (.tup (.cons (.blt .len (.cons (.var 0) .nil)) (.cons (.call 19 (.cons (.var 0) .nil)) .nil))))
 .nil)
def d_mark_of : Df := ⟨"mark_of", 1, ["bodies"], false, b_mark_of, [], [], false⟩
def b__law_box : Ss :=
 (.cons (.set 2 (.bin .add (.bin .mul (.int 31013) (.var 1)) (.int 7919)))
 (.cons (.ite (.cmp .lt (.var 1) (.blt .len (.cons (.var 0) .nil)))
 (.cons (.set 2 (.blt .abs (.cons (.blt .int (.cons (.idx (.var 0) (.var 1)) .nil)) .nil)))
 .nil)
 (.cons (.ite (.cmp .gt (.blt .len (.cons (.var 0) .nil)) (.int 0))
 (.cons (.set 2 (.bin .add (.var 2) (.bin .mul (.bin .mod (.blt .int (.cons (.blt .abs (.cons (.blt .int (.cons (.idx (.var 0) (.bin .mod (.blt .int (.cons (.var 1) .nil)) (.blt .len (.cons (.var 0) .nil)))) .nil)) .nil)) .nil)) (.int 2147483563)) (.int 94121))))
 .nil)
 .nil)
 .nil))
 (.cons (.set 3 (.ite (.cmp .ge (.var 2) (.bin .pow (.int 10) (.int 18))) (.var 2) (.int 0)))
 (.cons (.ret (.fm (.disp (.cons (.var 3) (.cons (.bin .add (.bin .mod (.blt .int (.cons (.bin .add (.bin .mul (.bin .mod (.blt .int (.cons (.var 2) .nil)) (.int 2147483563)) (.int 54250013)) (.bin .mul (.int 7919) (.var 1))) .nil)) (.int 2147483563)) (.int 1)) .nil)))))
 .nil))))
def d__law_box : Df := ⟨"_law_box", 2, ["script", "k", "cell", "great"], true, b__law_box, [], [], false⟩
def b__law_take : Ss :=
 (.cons (.ite (.cmp .gt (.idx (.var 0) (.int 0)) (.int 0))
 (.cons (.set 2 (.bin .mod (.blt .int (.cons (.idx (.var 0) (.int 0)) .nil)) (.var 1)))
 (.cons (.setIx (.var 0) (.int 0) (.bin .fdiv (.idx (.var 0) (.int 0)) (.var 1)))
 (.cons (.ret (.var 2))
 .nil)))
 .nil)
 (.cons (.set 3 (.bin .mod (.blt .int (.cons (.bin .add (.bin .mul (.idx (.var 0) (.int 1)) (.int 39373)) (.int 227)) .nil)) (.int 2147483647)))
 (.cons (.setIx (.var 0) (.int 1) (.bin .add (.bin .mod (.blt .int (.cons (.bin .add (.bin .mul (.var 3) (.int 40692)) (.int 101)) .nil)) (.int 2147483563)) (.int 1)))
 (.cons (.ret (.bin .mod (.blt .int (.cons (.bin .fdiv (.bin .add (.bin .mul (.var 3) (.int 2147483629)) (.idx (.var 0) (.int 1))) (.int 8269)) .nil)) (.var 1)))
 .nil))))
def d__law_take : Df := ⟨"_law_take", 2, ["box", "many", "digit", "raw"], false, b__law_take, [], [], false⟩
def b__law_pick : Ss :=
 (.cons (.ret (.idx (.var 1) (.call 22 (.cons (.var 0) (.cons (.blt .len (.cons (.var 1) .nil)) .nil)))))
 .nil)
def d__law_pick : Df := ⟨"_law_pick", 2, ["box", "some"], false, b__law_pick, [], [], false⟩
def b__law_same : Ss :=
 (.cons (.ite (.isi (.var 1) .tuple)
 (.cons (.ite (.bop false (.cons (.not (.isi (.var 0) .tuple)) (.cons (.cmp .ne (.blt .len (.cons (.var 0) .nil)) (.blt .len (.cons (.var 1) .nil))) .nil)))
 (.cons (.ret (.bl false))
 .nil)
 .nil)
 (.cons (.for_ (.t (.cons (.v 2) (.cons (.v 3) .nil))) (.zip (.var 0) (.var 1))
 (.cons (.ite (.not (.call 24 (.cons (.var 2) (.cons (.var 3) .nil))))
 (.cons (.ret (.bl false))
 .nil)
 .nil)
 .nil))
 (.cons (.ret (.bl true))
 .nil)))
 .nil)
 (.cons (.ite (.cmp .is (.var 1) .non)
 (.cons (.ret (.cmp .is (.var 0) .non))
 .nil)
 .nil)
 (.cons (.ite (.bop false (.cons (.cmp .is (.var 1) (.bl true)) (.cons (.cmp .is (.var 1) (.bl false)) .nil)))
 (.cons (.ret (.bop true (.cons (.isi (.var 0) .bool) (.cons (.cmp .eq (.var 0) (.var 1)) .nil))))
 .nil)
 .nil)
 (.cons (.ite (.isi (.var 1) .int)
 (.cons (.ret (.bop true (.cons (.isi (.var 0) .int) (.cons (.not (.isi (.var 0) .bool)) (.cons (.cmp .eq (.var 0) (.var 1)) .nil)))))
 .nil)
 .nil)
 (.cons (.ret (.bop true (.cons (.isi (.var 0) .str) (.cons (.isi (.var 1) .str) (.cons (.cmp .eq (.var 0) (.var 1)) .nil)))))
 .nil)))))
def d__law_same : Df := ⟨"_law_same", 2, ["told", "due", "one", "other"], false, b__law_same, [], [], false⟩
def b__law_chain : Ss :=
 (.cons (.set 2 (.int 0))
 (.cons (.for_ (.v 3) (.seq (.var 0))
 (.cons (.for_ (.v 4) (.seq (.callL 1 "packed" 5 (.cons (.var 3) .nil)))
 (.cons (.set 2 (.bin .mod (.blt .int (.cons (.bin .add (.bin .add (.bin .mul (.var 2) (.int 1000003)) (.var 4)) (.int 1)) .nil)) (.int 2305843009213693951)))
 .nil))
 .nil))
 (.cons (.ret (.var 2))
 .nil)))
def d__law_chain : Df := ⟨"_law_chain", 2, ["bodies", "octets_of", "told", "body", "octet"], false, b__law_chain, [], [], false⟩
def b__law_is_changing : Ss :=
 (.cons (.ret (.bop false (.cons (.cmp .eq (.idx (.var 0) (.int 0)) (.str "dawn")) (.cons (.bop true (.cons (.cmp .eq (.idx (.var 0) (.int 0)) (.str "done")) (.cons (.cmp .ne (.idx (.idx (.var 0) (.int 3)) (.int 0)) (.str "pass")) .nil))) .nil))))
 .nil)
def d__law_is_changing : Df := ⟨"_law_is_changing", 1, ["body"], false, b__law_is_changing, [], [], false⟩
def b__law_is_number : Ss :=
 (.cons (.ret (.bop true (.cons (.isi (.var 0) .int) (.cons (.not (.isi (.var 0) .bool)) (.cons (.cmp .le (.var 1) (.var 0)) (.cons (.bop false (.cons (.cmp .is (.var 2) .non) (.cons (.cmp .le (.var 0) (.var 2)) .nil))) .nil))))))
 .nil)
def d__law_is_number : Df := ⟨"_law_is_number", 3, ["value", "least", "most"], false, b__law_is_number, [], [], false⟩
def b__law_are_numbers : Ss :=
 (.cons (.ret (.bop true (.cons (.isi (.var 0) .tuple) (.cons (.bop false (.cons (.cmp .is (.var 1) .non) (.cons (.cmp .eq (.blt .len (.cons (.var 0) .nil)) (.var 1)) .nil))) (.cons (.cmp .eq (.comp (.int 1) (.v 2) (.seq (.var 0)) (.so (.not (.call 27 (.cons (.var 2) (.cons (.int 0) (.cons .non .nil)))))) [2]) (.fv (.disp .nil))) .nil)))))
 .nil)
def d__law_are_numbers : Df := ⟨"_law_are_numbers", 2, ["value", "many", "one"], false, b__law_are_numbers, [], [], false⟩
def b__law_starts : Ss :=
 (.cons (.ret (.bop true (.cons (.isi (.var 0) .tuple) (.cons (.cmp .eq (.blt .len (.cons (.var 0) .nil)) (.var 1)) (.cons (.isi (.idx (.var 0) (.int 0)) .str) (.cons (.cmp .eq (.idx (.var 0) (.int 0)) (.var 2)) .nil))))))
 .nil)
def d__law_starts : Df := ⟨"_law_starts", 3, ["value", "many", "word"], false, b__law_starts, [], [], false⟩
def b__law_is_choice : Ss :=
 (.cons (.ite (.call 29 (.cons (.var 0) (.cons (.int 3) (.cons (.str "do") .nil))))
 (.cons (.ret (.bop true (.cons (.call 27 (.cons (.idx (.var 0) (.int 1)) (.cons (.int 0) (.cons .non .nil)))) (.cons (.bop false (.cons (.cmp .is (.idx (.var 0) (.int 2)) .non) (.cons (.call 27 (.cons (.idx (.var 0) (.int 2)) (.cons (.int 0) (.cons .non .nil)))) .nil))) .nil))))
 .nil)
 .nil)
 (.cons (.ite (.bop false (.cons (.call 29 (.cons (.var 0) (.cons (.int 2) (.cons (.str "call") .nil)))) (.cons (.call 29 (.cons (.var 0) (.cons (.int 2) (.cons (.str "pass") .nil)))) .nil)))
 (.cons (.ret (.call 27 (.cons (.idx (.var 0) (.int 1)) (.cons (.int 0) (.cons .non .nil)))))
 .nil)
 .nil)
 (.cons (.ite (.call 29 (.cons (.var 0) (.cons (.int 3) (.cons (.str "change") .nil))))
 (.cons (.ret (.isi (.idx (.var 0) (.int 2)) .tuple))
 .nil)
 .nil)
 (.cons (.ret (.bop true (.cons (.call 29 (.cons (.var 0) (.cons (.int 3) (.cons (.str "back") .nil)))) (.cons (.call 27 (.cons (.idx (.var 0) (.int 1)) (.cons (.int 0) (.cons .non .nil)))) (.cons (.isi (.idx (.var 0) (.int 2)) .tuple) .nil)))))
 .nil))))
def d__law_is_choice : Df := ⟨"_law_is_choice", 1, ["value"], false, b__law_is_choice, [], [], false⟩
def b__law_is_body : Ss :=
 (.cons (.ite (.call 29 (.cons (.var 1) (.cons (.int 1) (.cons (.str "dawn") .nil))))
 (.cons (.ret (.bl true))
 .nil)
 .nil)
 (.cons (.ite (.call 29 (.cons (.var 1) (.cons (.int 2) (.cons (.str "silent") .nil))))
 (.cons (.ret (.bop true (.cons (.call 29 (.cons (.idx (.var 1) (.int 1)) (.cons (.int 2) (.cons (.str "pass") .nil)))) (.cons (.call 27 (.cons (.idx (.idx (.var 1) (.int 1)) (.int 1)) (.cons (.int 0) (.cons .non .nil)))) .nil))))
 .nil)
 .nil)
 (.cons (.ite (.bop false (.cons (.not (.isi (.var 1) .tuple)) (.cons (.cmp .lt (.blt .len (.cons (.var 1) .nil)) (.int 3)) (.cons (.not (.call 27 (.cons (.idx (.var 1) (.int 1)) (.cons (.int 0) (.cons (.bin .sub (.var 0) (.int 1)) .nil))))) (.cons (.not (.call 27 (.cons (.idx (.var 1) (.int 2)) (.cons (.int 0) (.cons .non .nil))))) .nil)))))
 (.cons (.ret (.bl false))
 .nil)
 .nil)
 (.cons (.ite (.call 29 (.cons (.var 1) (.cons (.int 3) (.cons (.str "void") .nil))))
 (.cons (.ret (.bl true))
 .nil)
 .nil)
 (.cons (.ite (.call 29 (.cons (.var 1) (.cons (.int 4) (.cons (.str "done") .nil))))
 (.cons (.set 2 (.idx (.var 1) (.int 3)))
 (.cons (.ite (.call 29 (.cons (.var 2) (.cons (.int 4) (.cons (.str "do") .nil))))
 (.cons (.ret (.bop true (.cons (.call 30 (.cons (.slc (.var 2) .no (.so (.int 3))) .nil)) (.cons (.call 28 (.cons (.idx (.var 2) (.int 3)) (.cons .non .nil))) .nil))))
 .nil)
 .nil)
 (.cons (.ret (.bop true (.cons (.bop false (.cons (.call 29 (.cons (.var 2) (.cons (.int 2) (.cons (.str "call") .nil)))) (.cons (.call 29 (.cons (.var 2) (.cons (.int 2) (.cons (.str "pass") .nil)))) .nil))) (.cons (.call 27 (.cons (.idx (.var 2) (.int 1)) (.cons (.int 0) (.cons .non .nil)))) .nil))))
 .nil)))
 .nil)
 (.cons (.ite (.bop false (.cons (.cmp .lt (.blt .len (.cons (.var 1) .nil)) (.int 5)) (.cons (.not (.isi (.idx (.var 1) (.int 4)) .str)) (.cons (.cmp .notin (.idx (.var 1) (.int 4)) (.tup (.cons (.str "done") (.cons (.str "void") .nil)))) .nil))))
 (.cons (.ret (.bl false))
 .nil)
 .nil)
 (.cons (.ret (.bop false (.cons (.call 29 (.cons (.var 1) (.cons (.int 5) (.cons (.str "change") .nil)))) (.cons (.bop true (.cons (.call 29 (.cons (.var 1) (.cons (.int 6) (.cons (.str "back") .nil)))) (.cons (.call 27 (.cons (.idx (.var 1) (.int 3)) (.cons (.int 0) (.cons .non .nil)))) (.cons (.call 28 (.cons (.idx (.var 1) (.int 5)) (.cons .non .nil))) .nil)))) .nil))))
 .nil)))))))
def d__law_is_body : Df := ⟨"_law_is_body", 2, ["many", "value", "row"], false, b__law_is_body, [], [], false⟩
def b__law_is_letter : Ss :=
 (.cons (.ite (.call 29 (.cons (.var 1) (.cons (.int 4) (.cons (.str "row") .nil))))
 (.cons (.ret (.bop true (.cons (.call 27 (.cons (.idx (.var 1) (.int 1)) (.cons (.int 0) (.cons .non .nil)))) (.cons (.call 31 (.cons (.var 0) (.cons (.idx (.var 1) (.int 2)) .nil))) (.cons (.call 27 (.cons (.idx (.var 1) (.int 3)) (.cons (.int 0) (.cons .non .nil)))) .nil)))))
 .nil)
 .nil)
 (.cons (.ite (.bop false (.cons (.not (.isi (.var 1) .tuple)) (.cons (.cmp .lt (.blt .len (.cons (.var 1) .nil)) (.int 3)) (.cons (.not (.call 27 (.cons (.idx (.var 1) (.int 1)) (.cons (.int 0) (.cons (.bin .sub (.var 0) (.int 1)) .nil))))) .nil))))
 (.cons (.ret (.bl false))
 .nil)
 .nil)
 (.cons (.ite (.call 29 (.cons (.var 1) (.cons (.int 3) (.cons (.str "agree") .nil))))
 (.cons (.ret (.bl true))
 .nil)
 .nil)
 (.cons (.ite (.not (.call 27 (.cons (.idx (.var 1) (.int 2)) (.cons (.int 0) (.cons .non .nil)))))
 (.cons (.ret (.bl false))
 .nil)
 .nil)
 (.cons (.ite (.call 29 (.cons (.var 1) (.cons (.int 6) (.cons (.str "ask") .nil))))
 (.cons (.ret (.bop true (.cons (.call 30 (.cons (.idx (.var 1) (.int 3)) .nil)) (.cons (.call 27 (.cons (.idx (.var 1) (.int 4)) (.cons (.int 0) (.cons .non .nil)))) (.cons (.call 28 (.cons (.idx (.var 1) (.int 5)) (.cons (.int 2) .nil))) .nil)))))
 .nil)
 .nil)
 (.cons (.ite (.call 29 (.cons (.var 1) (.cons (.int 4) (.cons (.str "seen") .nil))))
 (.cons (.ret (.call 30 (.cons (.idx (.var 1) (.int 3)) .nil)))
 .nil)
 .nil)
 (.cons (.ret (.bop true (.cons (.bop false (.cons (.call 29 (.cons (.var 1) (.cons (.int 4) (.cons (.str "took") .nil)))) (.cons (.call 29 (.cons (.var 1) (.cons (.int 4) (.cons (.str "heard") .nil)))) .nil))) (.cons (.call 27 (.cons (.idx (.var 1) (.int 3)) (.cons (.int 0) (.cons .non .nil)))) .nil))))
 .nil)))))))
def d__law_is_letter : Df := ⟨"_law_is_letter", 2, ["many", "value"], false, b__law_is_letter, [], [], false⟩
def b__law_some_body : Ss :=
 (.cons (.par2 2 3 (.call 22 (.cons (.var 0) (.cons (.var 1) .nil))) (.call 22 (.cons (.var 0) (.cons (.int 5) .nil))))
 (.cons (.set 4 (.fv (.disp (.cons (.tup (.cons (.str "do") (.cons (.int 0) (.cons .non (.cons (.tup (.cons (.int 1) (.cons (.int 0) .nil))) .nil))))) (.cons (.tup (.cons (.str "do") (.cons (.int 2) (.cons (.int 1) (.cons (.tup .nil) .nil))))) (.cons (.tup (.cons (.str "call") (.cons (.int 0) .nil))) (.cons (.tup (.cons (.str "pass") (.cons (.int 1) .nil))) .nil)))))))
 (.cons (.set 5 (.fv (.disp (.cons (.tup (.cons (.str "done") (.cons (.var 2) (.cons (.var 3) (.cons (.call 23 (.cons (.var 0) (.cons (.var 4) .nil))) .nil))))) (.cons (.tup (.cons (.str "done") (.cons (.var 2) (.cons (.var 3) (.cons (.call 23 (.cons (.var 0) (.cons (.var 4) .nil))) .nil))))) (.cons (.tup (.cons (.str "void") (.cons (.var 2) (.cons (.var 3) .nil)))) (.cons (.tup (.cons (.str "silent") (.cons (.tup (.cons (.str "pass") (.cons (.call 22 (.cons (.var 0) (.cons (.int 3) .nil))) .nil))) .nil))) (.cons (.tup (.cons (.str "dawn") .nil)) .nil))))))))
 (.cons (.ret (.call 23 (.cons (.var 0) (.cons (.fv (.cat (.var 5) (.fv (.disp (.cons (.tup (.cons (.str "change") (.cons (.var 2) (.cons (.var 3) (.cons (.tup (.cons (.str "any") .nil)) (.cons (.call 23 (.cons (.var 0) (.cons (.fv (.disp (.cons (.str "done") (.cons (.str "void") .nil)))) .nil))) .nil)))))) (.cons (.tup (.cons (.str "back") (.cons (.var 2) (.cons (.var 3) (.cons (.int 3) (.cons (.str "done") (.cons (.tup (.cons (.int 0) (.cons (.int 1) .nil))) .nil))))))) (.cons (.tup (.cons (.str "back") (.cons (.var 2) (.cons (.var 3) (.cons (.int 3) (.cons (.str "void") (.cons (.tup .nil) .nil))))))) .nil))))))) .nil))))
 .nil))))
def d__law_some_body : Df := ⟨"_law_some_body", 2, ["box", "many", "party", "number", "rows", "some"], false, b__law_some_body, [], [], false⟩
def b__law_some_letter : Ss :=
 (.cons (.par2 2 3 (.call 22 (.cons (.var 0) (.cons (.var 1) .nil))) (.call 22 (.cons (.var 0) (.cons (.int 5) .nil))))
 (.cons (.set 4 (.fv (.disp (.cons (.tup (.cons (.str "do") (.cons (.int 0) (.cons .non .nil)))) (.cons (.tup (.cons (.str "do") (.cons (.int 1) (.cons (.int 2) .nil)))) (.cons (.tup (.cons (.str "call") (.cons (.int 1) .nil))) (.cons (.tup (.cons (.str "pass") (.cons (.int 0) .nil))) (.cons (.tup (.cons (.str "change") (.cons (.tup .nil) (.cons (.tup .nil) .nil)))) (.cons (.tup (.cons (.str "back") (.cons (.int 2) (.cons (.tup (.cons (.tup (.cons (.str "agree") (.cons (.int 0) (.cons (.tup .nil) .nil)))) .nil)) .nil)))) .nil)))))))))
 (.cons (.set 5 (.fv (.disp (.cons (.tup (.cons (.str "ask") (.cons (.var 2) (.cons (.var 3) (.cons (.call 23 (.cons (.var 0) (.cons (.var 4) .nil))) (.cons (.int 3) (.cons (.tup (.cons (.int 2) (.cons (.int 77) .nil))) .nil))))))) (.cons (.tup (.cons (.str "seen") (.cons (.var 2) (.cons (.var 3) (.cons (.call 23 (.cons (.var 0) (.cons (.var 4) .nil))) .nil))))) (.cons (.tup (.cons (.str "heard") (.cons (.var 2) (.cons (.int 4) (.cons (.bin .pow (.int 10) (.int 17)) .nil))))) (.cons (.tup (.cons (.str "agree") (.cons (.var 2) (.cons .non .nil)))) .nil)))))))
 (.cons (.ret (.call 23 (.cons (.var 0) (.cons (.fv (.cat (.var 5) (.fv (.disp (.cons (.tup (.cons (.str "row") (.cons (.var 3) (.cons (.call 33 (.cons (.var 0) (.cons (.var 1) .nil))) (.cons (.int 5) .nil))))) (.cons (.tup (.cons (.str "row") (.cons (.var 3) (.cons (.call 33 (.cons (.var 0) (.cons (.var 1) .nil))) (.cons (.int 0) .nil))))) (.cons (.tup (.cons (.str "took") (.cons (.var 2) (.cons (.var 3) (.cons (.int 9) .nil))))) .nil))))))) .nil))))
 .nil))))
def d__law_some_letter : Df := ⟨"_law_some_letter", 2, ["box", "many", "party", "number", "choices", "some"], false, b__law_some_letter, [], [], false⟩
def b__law_turned : Ss :=
 (.cons (.set 2 (.call 23 (.cons (.var 0) (.cons (.fv (.disp (.cons .non (.cons (.bl true) (.cons (.bin .sub (.int 0) (.int 1)) (.cons (.str "x") (.cons (.tup .nil) (.cons (.str "ask") (.cons (.int 99) (.cons (.tup (.cons (.str "pass") (.cons (.bin .sub (.int 0) (.int 1)) .nil))) (.cons (.fv (.disp (.cons (.int 1) (.cons (.int 2) .nil)))) (.cons (.tup (.cons (.str "do") (.cons (.int 0) .nil))) (.cons (.tup (.cons (.str "dawn") .nil)) .nil))))))))))))) .nil))))
 (.cons (.ite (.bop false (.cons (.not (.isi (.var 1) .tuple)) (.cons (.cmp .eq (.var 1) (.tup .nil)) (.cons (.cmp .eq (.call 22 (.cons (.var 0) (.cons (.int 4) .nil))) (.int 0)) .nil))))
 (.cons (.ret (.var 2))
 .nil)
 .nil)
 (.cons (.par2 3 4 (.call 22 (.cons (.var 0) (.cons (.blt .len (.cons (.var 1) .nil)) .nil))) (.call 22 (.cons (.var 0) (.cons (.int 5) .nil))))
 (.cons (.ite (.cmp .eq (.var 4) (.int 0))
 (.cons (.ret (.bin .add (.slc (.var 1) .no (.so (.var 3))) (.slc (.var 1) (.so (.bin .add (.var 3) (.int 1))) .no)))
 .nil)
 .nil)
 (.cons (.ite (.cmp .eq (.var 4) (.int 1))
 (.cons (.ret (.bin .add (.bin .add (.slc (.var 1) .no (.so (.var 3))) (.tup (.cons (.var 2) .nil))) (.slc (.var 1) (.so (.var 3)) .no)))
 .nil)
 .nil)
 (.cons (.ret (.bin .add (.bin .add (.slc (.var 1) .no (.so (.var 3))) (.tup (.cons (.call 35 (.cons (.var 0) (.cons (.idx (.var 1) (.var 3)) .nil))) .nil))) (.slc (.var 1) (.so (.bin .add (.var 3) (.int 1))) .no)))
 .nil))))))
def d__law_turned : Df := ⟨"_law_turned", 2, ["box", "value", "odd", "spot", "way"], false, b__law_turned, [], [], false⟩
def b_law : Ss :=
 (.cons (.for_ (.v 1) (.rng1 (.blt .max (.cons (.int 3) (.cons (.blt .min (.cons (.blt .len (.cons (.var 0) .nil)) (.cons (.int 6) .nil))) .nil))))
 (.cons (.set 2 (.call 21 (.cons (.var 0) (.cons (.var 1) .nil))))
 (.cons (.set 3 (.bin .add (.int 2) (.call 22 (.cons (.var 2) (.cons (.int 3) .nil)))))
 (.cons (.for_ (.v 4) (.rng1 (.int 10))
 (.cons (.set 5 (.call 34 (.cons (.var 2) (.cons (.var 3) .nil))))
 (.cons (.for_ (.v 6) (.seq (.fv (.disp (.cons (.var 5) (.cons (.call 35 (.cons (.var 2) (.cons (.var 5) .nil))) (.cons (.call 35 (.cons (.var 2) (.cons (.var 5) .nil))) (.cons (.fv (.ofSeq (.var 5))) .nil)))))))
 (.cons (.ite (.not (.call 24 (.cons (.callK 15 (.cons (.var 3) .nil) (.cons (.var 6) .nil)) (.cons (.call 32 (.cons (.var 3) (.cons (.var 6) .nil))) .nil))))
 (.cons (.ret (.bl false))
 .nil)
 .nil)
 .nil))
 (.cons (.ite (.not (.call 24 (.cons (.call 16 (.cons (.var 5) .nil)) (.cons (.ite (.cmp .isin (.idx (.var 5) (.int 0)) (.tup (.cons (.str "row") (.cons (.str "took") .nil)))) (.bin .sub (.int 0) (.int 1)) (.idx (.var 5) (.int 1))) .nil))))
 (.cons (.ret (.bl false))
 .nil)
 .nil)
 .nil))))
 (.cons (.set 7 (.blt .tuple (.cons (.comp (.call 33 (.cons (.var 2) (.cons (.var 3) .nil))) (.v 4) (.rng1 (.call 22 (.cons (.var 2) (.cons (.int 8) .nil)))) .no [4]) .nil)))
 (.cons (.for_ (.v 8) (.seq (.var 7))
 (.cons (.set 9 (.cmp .isin (.idx (.var 8) (.int 0)) (.tup (.cons (.str "done") (.cons (.str "void") (.cons (.str "change") (.cons (.str "back") .nil)))))))
 (.cons (.set 10 (.bop false (.cons (.call 26 (.cons (.var 8) .nil)) (.cons (.bop true (.cons (.cmp .isin (.idx (.var 8) (.int 0)) (.tup (.cons (.str "change") (.cons (.str "back") .nil)))) (.cons (.cmp .eq (.idx (.var 8) (.int 4)) (.str "done")) .nil))) .nil))))
 (.cons (.ite (.not (.call 24 (.cons (.tup (.cons (.call 10 (.cons (.var 8) .nil)) (.cons (.call 11 (.cons (.var 8) .nil)) .nil))) (.cons (.tup (.cons (.ite (.var 9) (.slc (.var 8) (.so (.int 1)) (.so (.int 3))) .non) (.cons (.var 10) .nil))) .nil))))
 (.cons (.ret (.bl false))
 .nil)
 .nil)
 .nil))))
 (.cons (.set 11 (.call 25 (.cons (.var 7) (.cons (.glob "packed" (.fn "packed")) .nil))))
 (.cons (.ite (.not (.call 24 (.cons (.tup (.cons (.call 19 (.cons (.var 7) .nil)) (.cons (.call 20 (.cons (.var 7) .nil)) .nil))) (.cons (.tup (.cons (.var 11) (.cons (.tup (.cons (.blt .len (.cons (.var 7) .nil)) (.cons (.var 11) .nil))) .nil))) .nil))))
 (.cons (.ret (.bl false))
 .nil)
 .nil)
 (.cons (.ite (.bop true (.cons (.cmp .ne (.var 7) (.tup .nil)) (.cons (.not (.call 24 (.cons (.call 18 (.cons (.call 25 (.cons (.slc (.var 7) .no (.so (.bin .sub (.blt .len (.cons (.var 7) .nil)) (.int 1)))) (.cons (.glob "packed" (.fn "packed")) .nil))) (.cons (.idx (.var 7) (.bin .sub (.blt .len (.cons (.var 7) .nil)) (.int 1))) .nil))) (.cons (.var 11) .nil)))) .nil)))
 (.cons (.ret (.bl false))
 .nil)
 .nil)
 .nil)))))))))
 (.cons (.ret (.call 24 (.cons (.tup (.cons (.call 18 (.cons (.int 0) (.cons .non .nil))) (.cons (.call 17 (.cons (.tup (.cons (.str "do") (.cons (.int 1) (.cons (.int 2) .nil)))) .nil)) (.cons (.call 17 (.cons (.tup (.cons (.str "pass") (.cons (.int 0) .nil))) .nil)) .nil)))) (.cons (.tup (.cons (.int 1) (.cons (.tup (.cons (.str "do") (.cons (.int 1) (.cons .non .nil)))) (.cons (.tup (.cons (.str "pass") (.cons (.int 0) .nil))) .nil)))) .nil))))
 .nil))
def d_law : Df := ⟨"law", 1, ["script", "k", "box", "many", "turn", "letter", "value", "bodies", "body", "is_own_now", "changing", "due"], false, b_law, [], [], false⟩
def L : List Df := [d_is_int, d_is_number, d_is_tuple, d_is_numbers, d_counted, d_packed, d_is_choice, d_is_seen, d_is_body, d_is_course_body, d_asked_by, d_is_changing_body, d_is_mark, d_is_desks_letter, d_is_agreeing, d_is_letter, d_whose_letter, d_hidden_choice, d_chained, d_sum_of, d_mark_of, d__law_box, d__law_take, d__law_pick, d__law_same, d__law_chain, d__law_is_changing, d__law_is_number, d__law_are_numbers, d__law_starts, d__law_is_choice, d__law_is_body, d__law_is_letter, d__law_some_body, d__law_some_letter, d__law_turned, d_law]
end PyD.K55

namespace PyD.K55
open PyD
variable {fuel : Nat}
/-! ### the box -/
structure Bx where
  a : Int
  b : Int
def Bx.ds (s : Bx) : List D := [.int s.a, .int s.b]
@[simp] theorem Bx.closed (s : Bx) : closeds s.ds = true := rfl
def tk (s : Bx) (m : Int) : Int × Bx :=
  if 0 < s.a then (s.a % m, ⟨s.a / m, s.b⟩)
  else let raw := (s.b * 39373 + 227) % 2147483647
    let b := (raw * 40692 + 101) % 2147483563 + 1
    (((raw * 2147483629 + b) / 8269) % m, ⟨s.a, b⟩)
theorem tk_pos (s : Bx) {m : Int} (h : 0 < m) : 0 ≤ (tk s m).1 ∧ (tk s m).1 < m := by
  unfold tk
  split
  · exact ⟨Int.emod_nonneg _ (by omega), Int.emod_lt_of_pos _ h⟩
  · exact ⟨Int.emod_nonneg _ (by omega), Int.emod_lt_of_pos _ h⟩
theorem take_ok (k : Nat) (s : Bx) (m : Int) (hm : 0 < m) (hm2 : m < 1000000) : tabF L fuel (k + 1) 22 [.ref 0, .int m] [.lst s.ds] = some (.int (tk s m).1, [.lst (tk s m).2.ds]) := by
  rw [tab_step (d := d__law_take) rfl]
  obtain ⟨a, b⟩ := s
  have h3 : m < 1073741824 := by omega
  by_cases ha : 0 < a
  · simp [d__law_take, b__law_take, tk, ha, hm, h3, mod_i, fdiv_i, Bx.ds]
    exact fin_o (by simp) (by simp)
  · simp [d__law_take, b__law_take, tk, ha, hm, h3, mod_i, fdiv_i, mul_i, Bx.ds]
    rw [fin_o]
    all_goals simp
theorem c_take {h : AH} {n : Nat} (k : Nat) (s : Bx) (m : Int) (hn : n < h.length) (hm : 0 < m) (hm2 : m < 1000000) :
    callC (tabF L fuel (k + 1) 22) [.ref n, .int m] (h.set n (.lst s.ds)) = some (.int (tk s m).1, h.set n (.lst (tk s m).2.ds)) := by
  rw [callO (es := s.ds) (by simp [hn]) (by simp) (by simp) (take_ok k s m hm hm2) (by simp) (by simp), List.set_set]
theorem c_take0 (k : Nat) (s : Bx) (m : Int) (hm : 0 < m) (hm2 : m < 1000000) :
    callC (tabF L fuel (k + 1) 22) [.ref 0, .int m] [.lst s.ds] = some (.int (tk s m).1, [.lst (tk s m).2.ds]) :=
  c_take (h := [.lst s.ds]) k s m (by simp) hm hm2
theorem pick_ok (k : Nat) (s : Bx) (xs : List D) (x : D) (hx : xs[(tk s xs.length).1.toNat]? = some x) (h0 : 0 < xs.length) (h1 : xs.length < 1000000) (hc : closeds xs = true) :
    tabF L fuel (k + 2) 23 [.ref 0, .lst xs] [.lst s.ds] = some (x, [.lst (tk s xs.length).2.ds]) := by
  rw [tab_step (d := d__law_pick) rfl]
  have hp := tk_pos s (m := xs.length) (by omega)
  have hi : index (.lst xs) (.int (tk s xs.length).1) [.lst (tk s xs.length).2.ds] = some x := by
    have := index_at (d := .lst xs) (h := [.lst (tk s xs.length).2.ds]) (n := (tk s xs.length).1.toNat) rfl hx
    rwa [Int.toNat_of_nonneg hp.1] at this
  simp [d__law_pick, b__law_pick, c_take0 k s xs.length (by omega) (by omega), hi]
  exact fin_o (closeds_mem hc (List.mem_of_getElem? hx)) (by simp)
theorem c_pick {h : AH} {n : Nat} (k : Nat) (s : Bx) (xs : List D) (x : D) (hn : n < h.length) (hx : xs[(tk s xs.length).1.toNat]? = some x) (h0 : 0 < xs.length) (h1 : xs.length < 1000000) (hc : closeds xs = true) :
    callC (tabF L fuel (k + 2) 23) [.ref n, .lst xs] (h.set n (.lst s.ds)) = some (x, h.set n (.lst (tk s xs.length).2.ds)) := by
  rw [callO (es := s.ds) (by simp [hn]) (by simp [hc]) (by simp) (pick_ok k s xs x hx h0 h1 hc) (closeds_mem hc (List.mem_of_getElem? hx)) (by simp), List.set_set]
/-- a box is made -/
def mkB (c : Int) (j : Nat) : Bx := ⟨if 1000000000000000000 ≤ c then c else 0, (c % 2147483563 * 54250013 + 7919 * j) % 2147483563 + 1⟩
def boxTail : Ss := match b__law_box with
  | .cons _ (.cons _ t) => t
  | _ => .nil
theorem boxTail_ok (k : Nat) (x : D) (j : Nat) (c : Int) : (exs (tabF L fuel k) fuel boxTail [some x, some (.int j), some (.int c), none] []).bind (kRun true 0) = some (.ref 0, [.lst (mkB c j).ds]) := by
  have h1000 : binop .pow (.int 10) (.int 18) = some (.int 1000000000000000000) := rfl
  by_cases h2 : (1000000000000000000 : Int) ≤ c
  · simp [boxTail, b__law_box, h2, mul_i, mod_i, h1000, mkB]
    exact fin_m rfl
  · simp [boxTail, b__law_box, h2, mul_i, mod_i, h1000, mkB]
    exact fin_m rfl
theorem box_split : b__law_box = .cons (.set 2 (.bin .add (.bin .mul (.int 31013) (.var 1)) (.int 7919))) (.cons (match b__law_box with
  | .cons _ (.cons t _) => t
  | _ => .pass) boxTail) := rfl
theorem box_ok (k : Nat) (ns : List Int) (j : Nat) (hj : j < 100) : ∃ s : Bx, tabF L fuel (k + 1) 21 [.rol (ns.map .int), .int j] [] = some (.ref 0, [.lst s.ds]) := by
  rw [tab_step (d := d__law_box) rfl]
  show ∃ s : Bx, (exs (tabF L fuel k) fuel b__law_box _ []).bind (kRun true 0) = _
  rw [box_split]
  have hj0 : ¬ (j : Int) < 0 := by omega
  by_cases h1 : j < ns.length
  · have hi : index (.rol (ns.map .int)) (.int j) [] = some (.int ns[j]) := index_at rfl (by simp [h1])
    have h1' : (j : Int) < ns.length := by omega
    generalize hc : (if ns[j] < 0 then -ns[j] else ns[j]) = c
    refine ⟨mkB c j, ?_⟩
    rw [← boxTail_ok (fuel := fuel) k (.rol (ns.map .int))]
    simp [d__law_box, b__law_box, h1', hi, mul_i, mod_i, hc]
  · have h1' : ¬ (j : Int) < ns.length := by omega
    by_cases h0 : 0 < ns.length
    · have h0' : (0 : Int) < ns.length := by omega
      have hlt : j % ns.length < ns.length := Nat.mod_lt _ h0
      have hi : index (.rol (ns.map .int)) (.int ((j : Int) % (ns.length : Int))) [] = some (.int ns[j % ns.length]) := by
        have := index_at (d := .rol (ns.map .int)) (h := []) (n := j % ns.length) rfl (by simp [hlt]; rfl)
        rw [← Int.natCast_emod]
        exact this
      generalize hc : (if ns[j % ns.length] < 0 then -ns[j % ns.length] else ns[j % ns.length]) = c
      refine ⟨mkB (31013 * j + 7919 + (if c < 0 then -c else c) % 2147483563 * 94121) j, ?_⟩
      have hcc : (if c < 0 then -c else c) = c := if_neg (by rw [← hc]; split <;> omega)
      rw [← boxTail_ok (fuel := fuel) k (.rol (ns.map .int))]
      simp [d__law_box, b__law_box, h1, h1', h0, hi, mul_i, mod_i, hc, hcc]
    · refine ⟨mkB (31013 * j + 7919) j, ?_⟩
      rw [← boxTail_ok (fuel := fuel) k (.rol (ns.map .int))]
      have h0' : ns.length = 0 := by omega
      simp [d__law_box, b__law_box, h1, h1', h0, h0', mul_i, mod_i, hj0]
def vE : Option Int → D
  | none => .non
  | some i => .int i
@[simp] theorem vE_closed (v) : closed (vE v) = true := by cases v <;> rfl
def isI : D → Bool
  | .int _ => true
  | _ => false
def numB (v : D) (l : Int) (m : Option Int) : Bool := match v with
  | .int i => decide (l ≤ i) && (match m with
    | none => true
    | some j => decide (i ≤ j))
  | _ => false
theorem isint_run {k : Nat} (hk : 1 ≤ k) (v : D) (hc : closed v = true) : tabF L fuel k 0 [v] [] = some (.bl (isI v), []) := by
  obtain ⟨k, rfl⟩ : ∃ m, k = m + 1 := ⟨k - 1, by omega⟩
  rw [tab_step (d := d_is_int) rfl]
  cases v with
  | ref n => simp [closed] at hc
  | fn n => simp [closed] at hc
  | _ => simp [d_is_int, b_is_int, isTy, isI]; exact fin_0 rfl
theorem c_isint {k : Nat} (hk : 1 ≤ k) (v : D) (hc : closed v = true) (h : AH) : callC (tabF L fuel k 0) [v] h = some (.bl (isI v), h) := callV (by simp [hc]) (isint_run hk v hc) rfl
theorem num_run {k : Nat} (hk : 2 ≤ k) (v : D) (hc : closed v = true) (l : Int) (m : Option Int) : tabF L fuel k 1 [v, .int l, vE m] [] = some (.bl (numB v l m), []) := by
  obtain ⟨k, rfl⟩ : ∃ m, k = m + 1 := ⟨k - 1, by omega⟩
  have c := c_isint (fuel := fuel) (k := k) (by omega) v hc []
  rw [tab_step (d := d_is_number) rfl]
  cases v with
  | int i =>
    simp only [isI] at c
    by_cases h1 : l ≤ i
    · cases m with
      | none => simp [d_is_number, b_is_number, c, h1, vE, numB]; exact fin_0 rfl
      | some j => simp [d_is_number, b_is_number, c, h1, vE, numB]; exact fin_0 rfl
    · cases m with
      | none => simp [d_is_number, b_is_number, c, h1, vE, numB]; exact fin_0 rfl
      | some j => simp [d_is_number, b_is_number, c, h1, vE, numB]; exact fin_0 rfl
  | _ =>
    simp only [isI] at c
    simp [d_is_number, b_is_number, c, numB]; exact fin_0 rfl
theorem c_num {k : Nat} (hk : 2 ≤ k) (v : D) (hc : closed v = true) (l m : Int) (h : AH) : callC (tabF L fuel k 1) [v, .int l, .int m] h = some (.bl (numB v l (some m)), h) := callV (by simp [hc]) (num_run hk v hc l (some m)) rfl
theorem c_num0 {k : Nat} (hk : 2 ≤ k) (v : D) (hc : closed v = true) (l : Int) (h : AH) : callC (tabF L fuel k 1) [v, .int l, .non] h = some (.bl (numB v l none), h) := callV (by simp [hc]) (num_run hk v hc l none) rfl
theorem c_tk {k : Nat} (hk : 1 ≤ k) (m : Int) (hm : 0 < m) (hm2 : m < 1000000) (s : Bx) (R : AH) : callC (tabF L fuel k 22) [.ref 0, .int m] (.lst s.ds :: R) = some (.int (tk s m).1, .lst (tk s m).2.ds :: R) := by
  obtain ⟨k, rfl⟩ : ∃ m, k = m + 1 := ⟨k - 1, by omega⟩
  exact callO (r := 0) (h := .lst s.ds :: R) rfl rfl rfl (take_ok k s m hm hm2) rfl rfl
theorem c_bx {φ : Fun} {args : List D} {v : D} {s s' : Bx} (e : φ (.ref 0 :: args) [.lst s.ds] = some (v, [.lst s'.ds])) (hc : closeds args = true) (hv : closed v = true) (R : AH) :
    callC φ (.ref 0 :: args) (.lst s.ds :: R) = some (v, .lst s'.ds :: R) := callO (r := 0) (h := .lst s.ds :: R) rfl hc rfl e hv rfl
theorem tk_nat (s : Bx) (m : Int) (hm : 0 < m) : ∃ (n : Nat) (s' : Bx), tk s m = ((n : Int), s') ∧ (n : Int) < m := by
  have h := tk_pos s hm
  exact ⟨(tk s m).1.toNat, (tk s m).2, by rw [Int.toNat_of_nonneg h.1], by rw [Int.toNat_of_nonneg h.1]; exact h.2⟩
theorem pick_ex {k : Nat} (hk : 2 ≤ k) (s : Bx) (xs : List D) (h0 : 0 < xs.length) (h1 : xs.length < 1000000) (hc : closeds xs = true) :
    ∃ (x : D) (s' : Bx), x ∈ xs ∧ tabF L fuel k 23 [.ref 0, .lst xs] [.lst s.ds] = some (x, [.lst s'.ds]) := by
  obtain ⟨k, rfl⟩ : ∃ m, k = m + 2 := ⟨k - 2, by omega⟩
  have hp := tk_pos s (m := xs.length) (by omega)
  have hlt : (tk s xs.length).1.toNat < xs.length := by omega
  exact ⟨xs[(tk s xs.length).1.toNat], (tk s xs.length).2, List.getElem_mem hlt, pick_ok k s xs _ (List.getElem?_eq_getElem hlt) h0 h1 hc⟩
def isT : D → Bool
  | .tup _ => true
  | _ => false
theorem istup_run {k : Nat} (hk : 1 ≤ k) (v : D) (hc : closed v = true) : tabF L fuel k 2 [v, .non] [] = some (.bl (isT v), []) := by
  obtain ⟨k, rfl⟩ : ∃ m, k = m + 1 := ⟨k - 1, by omega⟩
  rw [tab_step (d := d_is_tuple) rfl]
  cases v with
  | ref n => simp [closed] at hc
  | fn n => simp [closed] at hc
  | _ => simp [d_is_tuple, b_is_tuple, isTy, isT]; exact fin_0 rfl
theorem c_istup {k : Nat} (hk : 1 ≤ k) (v : D) (hc : closed v = true) (h : AH) : callC (tabF L fuel k 2) [v, .non] h = some (.bl (isT v), h) := callV (by simp [hc]) (istup_run hk v hc) rfl
/-! ### the same -/
mutual
def sameD : D → D → Bool
  | t, .tup ds => match tupOf t with
    | some ts => samesD ts ds
    | none => false
  | t, .non => match t with
    | .non => true
    | _ => false
  | t, .bl b => match t with
    | .bl c => c == b
    | _ => false
  | t, .int i => match t with
    | .int j => j == i
    | _ => false
  | t, .str s => match t with
    | .str r => r == s
    | _ => false
  | _, _ => false
def samesD : List D → List D → Bool
  | t :: ts, d :: ds => sameD t d && samesD ts ds
  | [], [] => true
  | _, _ => false
end
mutual
theorem same_refl : ∀ d : D, keyOk d = true → sameD d d = true
  | .non, _ => rfl
  | .bl b, _ => by simp [sameD]
  | .int i, _ => by simp [sameD]
  | .str s, _ => by simp [sameD]
  | .tup ds, h => by simp only [sameD, tupOf]; exact sames_refl ds h
  | .lst _, h => by simp [keyOk] at h
  | .rol _, h => by simp [keyOk] at h
  | .ref _, h => by simp [keyOk] at h
theorem sames_refl : ∀ ds : List D, keyOks ds = true → samesD ds ds = true
  | [], _ => rfl
  | d :: ds, h => by
    simp only [keyOks, Bool.and_eq_true] at h
    simp only [samesD, same_refl d h.1, sames_refl ds h.2, Bool.and_self]
end
theorem sames_len : ∀ ts ds : List D, ts.length ≠ ds.length → samesD ts ds = false
  | [], [], h => absurd rfl h
  | [], _ :: _, _ => rfl
  | _ :: _, [], _ => rfl
  | t :: ts, d :: ds, h => by
    simp only [samesD, sames_len ts ds (fun z => h (by simp [z])), Bool.and_false]
def saB : Ss := (.cons (.ite (.not (.call 24 (.cons (.var 2) (.cons (.var 3) .nil))))
 (.cons (.ret (.bl false))
 .nil)
 .nil)
 .nil)
theorem sa_walk {C : Nat → Fun} (K : Nat) (hC : ∀ t d, closed t = true → closed d = true → depD d < K → ∀ h, callC (C 24) [t, d] h = some (.bl (sameD t d), h)) (x0 x1 : Option D) (len : Nat) (h : AH) : ∀ (ts ds : List D) (i : Nat) (x2 x3 : Option D), ts.length = ds.length → closeds ts = true → closeds ds = true → depDs ds < K →
    ∃ y2 y3, forL (.t (.cons (.v 2) (.cons (.v 3) .nil))) none len (exs C fuel saB) ((ts.zip ds).map fun p => D.tup [p.1, p.2]) i [x0, x1, x2, x3] h = some (if samesD ts ds then .nx else .rt (.bl false), [x0, x1, y2, y3], h)
  | [], [], i, x2, x3, _, _, _, _ => ⟨x2, x3, by simp [forL, okL, samesD]⟩
  | [], _ :: _, _, _, _, hl, _, _, _ => by simp at hl
  | _ :: _, [], _, _, _, hl, _, _, _ => by simp at hl
  | t :: ts, d :: ds, i, x2, x3, hl, ct, cd, hd => by
    simp only [closeds, Bool.and_eq_true] at ct cd
    simp only [depDs] at hd
    have c := hC t d ct.1 cd.1 (by omega) h
    cases hs : sameD t d with
    | false =>
      rw [hs] at c
      exact ⟨some t, some d, by simp [forL, okL, cur, put, puts, saB, c, samesD, hs]⟩
    | true =>
      rw [hs] at c
      obtain ⟨y2, y3, e⟩ := sa_walk K hC x0 x1 len h ts ds (i + 1) (some t) (some d) (by simpa using hl) ct.2 cd.2 (by omega)
      refine ⟨y2, y3, ?_⟩
      simp [forL, okL, cur, put, puts, saB, c, samesD, hs]
      simpa [saB] using e
theorem same_run : ∀ (k : Nat) (t d : D), closed t = true → closed d = true → depD d < k → tabF L fuel k 24 [t, d] [] = some (.bl (sameD t d), []) := by
  intro k
  induction k with
  | zero => intro t d _ _ h; omega
  | succ k ih =>
    intro t d ct cd hd
    have hC : ∀ t d, closed t = true → closed d = true → depD d < k → ∀ h, callC (tabF L fuel k 24) [t, d] h = some (.bl (sameD t d), h) := fun t d ct cd hd h => callV (by simp [ct, cd]) (ih t d ct cd hd) rfl
    rw [tab_step (d := d__law_same) rfl]
    cases d with
    | tup ds =>
      cases t with
      | tup ts =>
        by_cases hl : ts.length = ds.length
        · obtain ⟨y2, y3, e⟩ := sa_walk (fuel := fuel) (C := tabF L fuel k) k hC (some (.tup ts)) (some (.tup ds)) (ts.zip ds).length [] ts ds 0 none none hl ct cd (by simp only [depD] at hd; omega)
          have hl2 : ((ts.length : Int) == (ds.length : Int)) = true := by simp [hl]
          simp only [sameD, tupOf]
          simp [d__law_same, b__law_same, isTy, hl2, kFor_ap]
          rw [show (Ss.cons (S.ite ((Ex.call 24 (Exs.cons (Ex.var 2) (Exs.cons (Ex.var 3) Exs.nil))).not) (Ss.cons (S.ret (Ex.bl false)) Ss.nil) Ss.nil) Ss.nil) = saB from rfl]
          simp at e
          rw [e]
          cases samesD ts ds
          · simp; exact fin_0 rfl
          · simp; exact fin_0 rfl
        · have hl2 : ((ts.length : Int) == (ds.length : Int)) = false := by rw [beq_eq_false_iff_ne]; omega
          simp only [sameD, tupOf, sames_len ts ds hl]
          simp [d__law_same, b__law_same, isTy, hl2]
          exact fin_0 rfl
      | ref n => simp [closed] at ct
      | fn n => simp [closed] at ct
      | _ => simp [d__law_same, b__law_same, isTy, sameD, tupOf]; exact fin_0 rfl
    | non =>
      cases t with
      | ref n => simp [closed] at ct
      | fn n => simp [closed] at ct
      | _ => simp [d__law_same, b__law_same, isTy, sameD]; exact fin_0 rfl
    | bl b =>
      cases t with
      | ref n => simp [closed] at ct
      | fn n => simp [closed] at ct
      | _ => cases b <;> (simp [d__law_same, b__law_same, isTy, sameD]; exact fin_0 rfl)
    | int b =>
      cases t with
      | ref n => simp [closed] at ct
      | fn n => simp [closed] at ct
      | _ => simp [d__law_same, b__law_same, isTy, sameD]; exact fin_0 rfl
    | str b =>
      cases t with
      | ref n => simp [closed] at ct
      | fn n => simp [closed] at ct
      | _ => simp [d__law_same, b__law_same, isTy, sameD]; exact fin_0 rfl
    | lst ds =>
      cases t with
      | ref n => simp [closed] at ct
      | fn n => simp [closed] at ct
      | _ => simp [d__law_same, b__law_same, isTy, sameD]; exact fin_0 rfl
    | rol ds =>
      cases t with
      | ref n => simp [closed] at ct
      | fn n => simp [closed] at ct
      | _ => simp [d__law_same, b__law_same, isTy, sameD]; exact fin_0 rfl
    | ref n => simp [closed] at cd
    | fn n => simp [closed] at cd
theorem c_same {k : Nat} {t d : D} (ct : closed t = true) (cd : closed d = true) (hd : depD d < k) (h : AH) : callC (tabF L fuel k 24) [t, d] h = some (.bl (sameD t d), h) := callV (by simp [ct, cd]) (same_run k t d ct cd hd) rfl
theorem c_refl {k : Nat} {d : D} (cd : closed d = true) (hk : keyOk d = true) (hd : depD d < k) (h : AH) : callC (tabF L fuel k 24) [d, d] h = some (.bl true, h) := by
  rw [c_same cd cd hd, same_refl d hk]
theorem exs_sets {C : Nat → Fun} {i : Nat} {e : Ex} {K : Ss} {σ : Sl} {h h' : AH} {d : D} (he : ev C e σ h = some (d, h')) : exs C fuel (.cons (.set i e) K) σ h = exs C fuel K (σ.set i (some d)) h' := by
  rw [exs_cons, ex_set, he]; rfl
theorem exs_one {C : Nat → Fun} {s : S} {σ σ' : Sl} {h h' : AH} (e : ex C fuel s σ h = some (.nx, σ', h')) : exs C fuel (.cons s .nil) σ h = some (.nx, σ', h') := by
  rw [exs_cons, e]
  simp only [Option.bind_some, kSeq_nx, exs_nil]
theorem exs_go {C : Nat → Fun} {s : S} {K : Ss} {σ σ' : Sl} {h h' : AH} (e : ex C fuel s σ h = some (.nx, σ', h')) : exs C fuel (.cons s K) σ h = exs C fuel K σ' h' := by
  rw [exs_cons, e]; rfl
theorem ite_t {C : Nat → Fun} {c : Ex} {t e : Ss} {σ : Sl} {h h1 : AH} (hc : tst C c σ h = some (true, h1)) : ex C fuel (.ite c t e) σ h = exs C fuel t σ h1 := by rw [ex_ite, hc]; rfl
theorem ite_f {C : Nat → Fun} {c : Ex} {t e : Ss} {σ : Sl} {h h1 : AH} (hc : tst C c σ h = some (false, h1)) : ex C fuel (.ite c t e) σ h = exs C fuel e σ h1 := by rw [ex_ite, hc]; rfl
theorem tupn_run {k : Nat} (hk : 1 ≤ k) (v : D) (hc : closed v = true) (m : Option Int) : tabF L fuel k 2 [v, vE m] [] = some (.bl (match v with
    | .tup ds => (match m with
      | none => true
      | some j => ((ds.length : Int) == j))
    | _ => false), []) := by
  obtain ⟨k, rfl⟩ : ∃ m, k = m + 1 := ⟨k - 1, by omega⟩
  rw [tab_step (d := d_is_tuple) rfl]
  cases v with
  | ref n => simp [closed] at hc
  | fn n => simp [closed] at hc
  | tup ds => cases m <;> (simp [d_is_tuple, b_is_tuple, isTy, vE]; exact fin_0 rfl)
  | _ => cases m <;> (simp [d_is_tuple, b_is_tuple, isTy, vE]; exact fin_0 rfl)
def isN : D → Bool
  | .non => true
  | _ => false
theorem is_non (v : D) (hc : closed v = true) (h : AH) : cmpop .is v .non h = some (isN v) := by
  cases v with
  | ref n => simp [closed] at hc
  | fn n => simp [closed] at hc
  | _ => rfl
theorem numB_int {a : D} {l : Int} {m} (h : numB a l m = true) : ∃ i, a = .int i ∧ l ≤ i ∧ ∀ j, m = some j → i ≤ j := by
  cases a with
  | int i =>
    simp only [numB, Bool.and_eq_true, decide_eq_true_eq] at h
    refine ⟨i, rfl, h.1, fun j hj => ?_⟩
    subst hj
    simpa using h.2
  | _ => simp [numB] at h
theorem clos {x : D} {l : List D} (h : closed (.tup (x :: l)) = true) : closed x = true ∧ closed (.tup l) = true := by
  simpa [closed, closeds] using h
def numsV (v : D) (m l u : Int) : Bool := match v with
  | .tup ds => ((ds.length : Int) == m) && ds.all (fun x => numB x l (some u))
  | _ => false
theorem closeds_all' {ds : List D} (h : closeds ds = true) : ∀ x ∈ ds, closed x = true := fun x hx => closeds_mem h hx
theorem filter_len (p : D → Bool) (ds : List D) : (((ds.filter (fun x => !p x)).length : Nat) == 0) = ds.all p := by
  induction ds with
  | nil => rfl
  | cons a l ih =>
    rw [List.filter_cons, List.all_cons]
    cases hp : p a with
    | true => simpa using ih
    | false => simp
theorem numbers_run {k : Nat} (hk : 3 ≤ k) (v : D) (hc : closed v = true) (hl : ∀ ds, v = .tup ds → ds.length ≤ 100000) (m l u : Int) : tabF L fuel k 3 [v, .int m, .int l, .int u] [] = some (.bl (numsV v m l u), []) := by
  obtain ⟨k, rfl⟩ : ∃ m, k = m + 1 := ⟨k - 1, by omega⟩
  have t2 : ∀ h, callC (tabF L fuel k 2) [v, .int m] h = some (.bl (match v with
    | .tup ds => ((ds.length : Int) == m)
    | _ => false), h) := fun h => by
    have := callV (h := h) (by simp [hc, closeds, closed]) (tupn_run (fuel := fuel) (k := k) (by omega) v hc (some m)) rfl
    rw [show vE (some m) = .int m from rfl] at this
    exact this.trans (by cases v <;> rfl)
  rw [tab_step (d := d_is_numbers) rfl]
  cases v with
  | tup ds =>
    simp only at t2
    have hds : closeds ds = true := hc
    have cc := compL_map (σ := [some (.tup ds), some (.int m), some (.int l), some (.int u), none]) (tg := .v 4) (len := ds.length) (c := tstO (tabF L fuel k) (.so (.not (.call 1 (.cons (.var 4) (.cons (.var 2) (.cons (.var 3) .nil))))))) (e := ev (tabF L fuel k) (.var 4)) (h := []) (fun x => !numB x l (some u)) (fun x => x) ds 0 (fun x hx => by
      have c1 := fun h => c_num (fuel := fuel) (k := k) (by omega) x (closeds_all' hds x hx) l u h
      exact ⟨_, rfl, by simp [c1, truth], fun _ => by simp⟩)
    have hlen := filter_len (fun x => numB x l (some u)) ds
    have hlim : ds.length ≤ lim := by have := hl ds rfl; simp [lim]; omega
    simp only [numsV]
    cases hm : ((ds.length : Int) == m) with
    | false =>
      rw [hm] at t2
      generalize D.tup ds = V at *
      simp [d_is_numbers, b_is_numbers, t2]
      exact fin_0 rfl
    | true =>
      rw [hm] at t2
      have hit : ∀ H, items (.tup ds) H = some ds := fun H => rfl
      have hz : ∀ b, (((ds.filter (fun x => !numB x l (some u))).length : Nat) == 0) = b → ((((ds.filter (fun x => !numB x l (some u))).length : Nat) : Int) == 0) = b := fun b hb => by
        rw [← hb]; rw [Bool.eq_iff_iff]; simp
      have hz := hz _ hlen
      generalize hFL : ds.filter (fun x => !numB x l (some u)) = FL at *
      simp [d_is_numbers, b_is_numbers, t2, hit, kComp_ap, hlim]
      rw [cc]
      simp [hz]
      exact fin_0 rfl
  | ref n => simp [closed] at hc
  | fn n => simp [closed] at hc
  | _ =>
    simp only at t2
    simp [d_is_numbers, b_is_numbers, t2, numsV]
    exact fin_0 rfl
theorem depDs_le {ds : List D} {m : Nat} (h : depDs ds ≤ m) : ∀ x ∈ ds, depD x ≤ m := by
  induction ds with
  | nil => intro x hx; cases hx
  | cons a l ih =>
    intro x hx
    simp only [depDs] at h
    rcases List.mem_cons.1 hx with rfl | hx
    · omega
    · exact ih (by omega) x hx
theorem numB_isint {x : D} {l : Int} {u} (h : numB x l u = true) : ∃ j : Int, x = .int j := by
  obtain ⟨i, rfl, _⟩ := numB_int h
  exact ⟨i, rfl⟩
theorem for_rx {tg : Tg} {n : Nat} {b : Sl → AH → Option (Fl × Sl × AH)} (L : List D) (I : Nat → Sl → AH → Prop) (P : Fl → Sl → AH → Prop) (hI : ∀ m σ h, I m σ h → h[n]? = some (.lst L))
    (done : ∀ σ h, I L.length σ h → P .nx σ h)
    (step : ∀ m x σ h, L[m]? = some x → I m σ h → ∃ σ1, put tg x σ = some σ1 ∧ ∃ f σ2 h2, b σ1 h = some (f, σ2, h2) ∧ (match f with
      | .nx => I (m + 1) σ2 h2
      | .ct => I (m + 1) σ2 h2
      | .bk => P .nx σ2 h2
      | .rt d => P (.rt d) σ2 h2)) : ∀ (xs : List D) (m : Nat) (σ : Sl) (h : AH), xs = L.drop m → m ≤ L.length → I m σ h → ∃ f σ' h', forL tg (some n) L.length b xs m σ h = some (f, σ', h') ∧ P f σ' h'
  | [], m, σ, h, e, hm, hi => by
    have hl : m = L.length := by
      have := congrArg List.length e
      simp at this; omega
    refine ⟨.nx, σ, h, ?_, done σ h (by rw [← hl]; exact hi)⟩
    have := hI m σ h hi
    simp [forL, okL, this]
  | x :: xs, m, σ, h, e, hm, hi => by
    have hl : m < L.length := by
      have := congrArg List.length e
      simp at this; omega
    rw [List.drop_eq_getElem_cons hl, List.cons.injEq] at e
    have hx : L[m]? = some x := by rw [List.getElem?_eq_getElem hl, e.1]
    have hh := hI m σ h hi
    obtain ⟨σ1, e1, f, σ2, h2, e2, p⟩ := step m x σ h hx hi
    have hok : okL (some n) L.length h = true := by simp [okL, hh]
    have hcu : cur (some n) m x h = some x := by simp [cur, hh, hx]
    cases f with
    | nx =>
      obtain ⟨f', σ', h', e3, p3⟩ := for_rx L I P hI done step xs (m + 1) σ2 h2 e.2 hl p
      exact ⟨f', σ', h', by simp [forL, hok, hcu, e1, e2, e3], p3⟩
    | ct =>
      obtain ⟨f', σ', h', e3, p3⟩ := for_rx L I P hI done step xs (m + 1) σ2 h2 e.2 hl p
      exact ⟨f', σ', h', by simp [forL, hok, hcu, e1, e2, e3], p3⟩
    | bk => exact ⟨.nx, σ2, h2, by simp [forL, hok, hcu, e1, e2], p⟩
    | rt d => exact ⟨.rt d, σ2, h2, by simp [forL, hok, hcu, e1, e2], p⟩
theorem c_bxE {φ : Fun} {args : List D} {v : D} {s s' : Bx} (e : φ (.ref 0 :: args) [.lst s.ds] = some (v, [.lst s'.ds])) (hc : closeds args = true) (hv : closed v = true) (h : AH) :
    callC φ (.ref h.length :: args) (h ++ [.lst s.ds]) = some (v, h ++ [.lst s'.ds]) := by
  rw [callO (es := s.ds) (by simp) hc rfl e hv rfl, List.set_append_right _ _ (Nat.le_refl _)]
  simp
theorem c_tkE {k : Nat} (hk : 1 ≤ k) (m : Int) (hm : 0 < m) (hm2 : m < 1000000) (s : Bx) (h : AH) : callC (tabF L fuel k 22) [.ref h.length, .int m] (h ++ [.lst s.ds]) = some (.int (tk s m).1, h ++ [.lst (tk s m).2.ds]) := by
  obtain ⟨k, rfl⟩ : ∃ m, k = m + 1 := ⟨k - 1, by omega⟩
  exact c_bxE (take_ok k s m hm hm2) rfl rfl h
def nthS : Nat → Ss → S
  | 0, .cons s _ => s
  | n + 1, .cons _ ss => nthS n ss
  | _, .nil => .pass
theorem depDs_app : ∀ (xs ys : List D), depDs (xs ++ ys) = max (depDs xs) (depDs ys)
  | [], ys => by simp [depDs]
  | x :: xs, ys => by simp [depDs, depDs_app xs ys, Nat.max_assoc]
theorem closeds_app : ∀ (xs ys : List D), closeds (xs ++ ys) = (closeds xs && closeds ys)
  | [], ys => rfl
  | x :: xs, ys => by simp [closeds_app xs ys, Bool.and_assoc]
theorem closeds_takeD {xs : List D} (n : Nat) (h : closeds xs = true) : closeds (xs.take n) = true :=
  closeds_all fun x hx => closeds_mem h (List.mem_of_mem_take hx)
theorem closeds_dropD {xs : List D} (n : Nat) (h : closeds xs = true) : closeds (xs.drop n) = true :=
  closeds_all fun x hx => closeds_mem h (List.mem_of_mem_drop hx)
theorem depDs_take : ∀ (xs : List D) (n : Nat), depDs (xs.take n) ≤ depDs xs
  | [], n => by simp
  | x :: xs, 0 => by simp [depDs]
  | x :: xs, n + 1 => by have := depDs_take xs n; simp [depDs]; omega
theorem depDs_drop : ∀ (xs : List D) (n : Nat), depDs (xs.drop n) ≤ depDs xs
  | [], n => by simp
  | x :: xs, 0 => by simp
  | x :: xs, n + 1 => by have := depDs_drop xs n; simp [depDs]; omega

end PyD.K55

namespace PyD.K55
open PyD
variable {fuel : Nat}
/-! ### choices -/
theorem isin2 (w x y : String) (h : AH) : cmpop .isin (.str w) (.tup [.str x, .str y]) h = some (w == x || w == y) := by
  have h1 : (x == w) = (w == x) := by rw [Bool.eq_iff_iff]; simp only [beq_iff_eq]; exact ⟨Eq.symm, Eq.symm⟩
  have h2 : (y == w) = (w == y) := by rw [Bool.eq_iff_iff]; simp only [beq_iff_eq]; exact ⟨Eq.symm, Eq.symm⟩
  simp [cmpop, items, flat, beqD, h1, h2]
theorem notstr {x : D} (hc : closed x = true) (hx : ∀ w, x ≠ .str w) (H : AH) : isTyH x .str H = some false := by
  cases x with
  | str w => exact absurd rfl (hx w)
  | ref n => simp [closed] at hc
  | fn n => simp [closed] at hc
  | _ => rfl
theorem isty_t {v : D} (hc : closed v = true) (H : AH) : isTyH v .tuple H = some (isT v) := by
  cases v with
  | ref n => simp [closed] at hc
  | fn n => simp [closed] at hc
  | _ => rfl
def choB : D → Bool
  | .tup [.str w, a] => (w == "call" || w == "pass") && numB a 0 none
  | .tup [.str w, a, b] => if w == "do" then numB a 0 none && (isN b || numB b 0 none) else if w == "back" then numB a 0 none && isT b else w == "change" && isT b
  | _ => false
theorem choB_head {x : D} {r : List D} (hx : ∀ w, x ≠ .str w) : choB (.tup (x :: r)) = false := by
  unfold choB
  split
  · rename_i w a h; simp at h; exact absurd h.1 (hx w)
  · rename_i w a b h; simp at h; exact absurd h.1 (hx w)
  · rfl
theorem ixs {ds : List D} {n : Nat} {x : D} (h : ds[n]? = some x) (H : AH) : index (.tup ds) (.int (n : Nat)) H = some x := index_at rfl h
theorem choice_run {k : Nat} (hk : 3 ≤ k) (v : D) (hc : closed v = true) : tabF L fuel k 6 [v] [] = some (.bl (choB v), []) := by
  obtain ⟨k, rfl⟩ : ∃ m, k = m + 1 := ⟨k - 1, by omega⟩
  have t2 := fun h => c_istup (fuel := fuel) (k := k) (by omega) v hc h
  rw [tab_step (d := d_is_choice) rfl]
  cases v with
  | tup ds =>
    simp only [isT] at t2
    match ds, hc with
    | [], hc => simp [d_is_choice, b_is_choice, t2, choB]; exact fin_0 rfl
    | x :: r, hc =>
      obtain ⟨hcx, hcr⟩ := clos hc
      have hlen : ∀ H, bltf .len [.tup (x :: r)] H = some (.int ((r.length : Nat) + 1 : Int)) := fun H => by rw [len_tup]; simp
      have l0 : (((r.length : Nat) : Int) + 1 == 0) = false := by rw [beq_eq_false_iff_ne]; omega
      have i0 : ∀ H, index (.tup (x :: r)) (.int 0) H = some x := fun H => ixs (n := 0) rfl H
      by_cases hx : ∃ w, x = .str w
      case neg =>
        have hx : ∀ w, x ≠ .str w := fun w z => hx ⟨w, z⟩
        rw [choB_head hx]
        have hs := notstr hcx hx
        generalize D.tup (x :: r) = V at *
        simp [d_is_choice, b_is_choice, t2, hlen, l0, i0, hs]
        exact fin_0 rfl
      obtain ⟨w, rfl⟩ := hx
      have hin := fun H => isin2 w "call" "pass" H
      match r, hcr with
      | [], hcr =>
        have hs : choB (.tup [.str w]) = false := rfl
        rw [hs]
        generalize D.tup [.str w] = V at *
        by_cases w1 : w = "do"
        · subst w1; simp [d_is_choice, b_is_choice, t2, hlen, i0, isTy]; exact fin_0 rfl
        have w1 : (w == "do") = false := by simpa using w1
        cases w2 : (w == "call" || w == "pass") with
        | true => rw [w2] at hin; simp [d_is_choice, b_is_choice, t2, hlen, i0, isTy, w1, hin]; exact fin_0 rfl
        | false =>
          rw [w2] at hin
          by_cases w3 : w = "back"
          · subst w3; simp [d_is_choice, b_is_choice, t2, hlen, i0, isTy, w1, hin]; exact fin_0 rfl
          have w3 : (w == "back") = false := by simpa using w3
          by_cases w4 : w = "change"
          · subst w4; simp [d_is_choice, b_is_choice, t2, hlen, i0, isTy, w1, w3, hin]; exact fin_0 rfl
          have w4 : (w == "change") = false := by simpa using w4
          simp [d_is_choice, b_is_choice, t2, hlen, i0, isTy, w1, w3, w4, hin]; exact fin_0 rfl
      | [a], hcr =>
        have ca := (clos hcr).1
        have n1 := fun h => c_num0 (fuel := fuel) (k := k) (by omega) a ca 0 h
        have i1 : ∀ H, index (.tup [.str w, a]) (.int 1) H = some a := fun H => ixs (n := 1) rfl H
        have hs : choB (.tup [.str w, a]) = ((w == "call" || w == "pass") && numB a 0 none) := rfl
        rw [hs]
        generalize D.tup [.str w, a] = V at *
        generalize numB a 0 none = N1 at *
        by_cases w1 : w = "do"
        · subst w1; simp [d_is_choice, b_is_choice, t2, hlen, i0, isTy]; exact fin_0 rfl
        have w1 : (w == "do") = false := by simpa using w1
        cases w2 : (w == "call" || w == "pass") with
        | true => rw [w2] at hin; simp [d_is_choice, b_is_choice, t2, hlen, i0, isTy, w1, hin, i1, n1]; exact fin_0 rfl
        | false =>
          rw [w2] at hin
          by_cases w3 : w = "back"
          · subst w3; simp [d_is_choice, b_is_choice, t2, hlen, i0, isTy, w1, hin]; exact fin_0 rfl
          have w3 : (w == "back") = false := by simpa using w3
          by_cases w4 : w = "change"
          · subst w4; simp [d_is_choice, b_is_choice, t2, hlen, i0, isTy, w1, w3, hin]; exact fin_0 rfl
          have w4 : (w == "change") = false := by simpa using w4
          simp [d_is_choice, b_is_choice, t2, hlen, i0, isTy, w1, w3, w4, hin]; exact fin_0 rfl
      | [a, b], hcr =>
        have ca := (clos hcr).1
        have cb := (clos (clos hcr).2).1
        have n1 := fun h => c_num0 (fuel := fuel) (k := k) (by omega) a ca 0 h
        have n2 := fun h => c_num0 (fuel := fuel) (k := k) (by omega) b cb 0 h
        have m2 := fun h => c_istup (fuel := fuel) (k := k) (by omega) b cb h
        have z2 := is_non b cb
        have i1 : ∀ H, index (.tup [.str w, a, b]) (.int 1) H = some a := fun H => ixs (n := 1) rfl H
        have i2 : ∀ H, index (.tup [.str w, a, b]) (.int 2) H = some b := fun H => ixs (n := 2) rfl H
        have hs : choB (.tup [.str w, a, b]) = if w == "do" then numB a 0 none && (isN b || numB b 0 none) else if w == "back" then numB a 0 none && isT b else w == "change" && isT b := rfl
        rw [hs]
        generalize D.tup [.str w, a, b] = V at *
        generalize numB a 0 none = N1 at *
        generalize numB b 0 none = N2 at *
        generalize isN b = N3 at *
        generalize isT b = N4 at *
        by_cases w1 : w = "do"
        · subst w1; cases N1 <;> cases N3 <;> (simp [d_is_choice, b_is_choice, t2, hlen, i0, isTy, i1, i2, n1, n2, z2, -PyD.is_non]; exact fin_0 rfl)
        have w1 : (w == "do") = false := by simpa using w1
        cases w2 : (w == "call" || w == "pass") with
        | true =>
          have w3 : (w == "back") = false := by
            simp at w2; rcases w2 with rfl | rfl <;> decide
          have w4 : (w == "change") = false := by
            simp at w2; rcases w2 with rfl | rfl <;> decide
          rw [w2] at hin; simp [d_is_choice, b_is_choice, t2, hlen, i0, isTy, w1, hin, w3, w4]; exact fin_0 rfl
        | false =>
          rw [w2] at hin
          by_cases w3 : w = "back"
          · subst w3; cases N1 <;> (simp [d_is_choice, b_is_choice, t2, hlen, i0, isTy, w1, hin, i1, i2, n1, m2]; exact fin_0 rfl)
          have w3 : (w == "back") = false := by simpa using w3
          by_cases w4 : w = "change"
          · subst w4; simp [d_is_choice, b_is_choice, t2, hlen, i0, isTy, w1, w3, hin, i2, m2]; exact fin_0 rfl
          have w4 : (w == "change") = false := by simpa using w4
          simp [d_is_choice, b_is_choice, t2, hlen, i0, isTy, w1, w3, w4, hin]; exact fin_0 rfl
      | a :: b :: c :: r', hcr =>
        have hs : choB (.tup (.str w :: a :: b :: c :: r')) = false := rfl
        have l2 : ((((a :: b :: c :: r').length : Nat) : Int) + 1 == 2) = false := by rw [beq_eq_false_iff_ne]; simp; omega
        have l3 : ((((a :: b :: c :: r').length : Nat) : Int) + 1 == 3) = false := by rw [beq_eq_false_iff_ne]; simp; omega
        rw [hs]
        generalize (((a :: b :: c :: r').length : Nat) : Int) = LN at *
        generalize D.tup (.str w :: a :: b :: c :: r') = V at *
        by_cases w1 : w = "do"
        · subst w1; simp [d_is_choice, b_is_choice, t2, hlen, l0, l3, i0, isTy]; exact fin_0 rfl
        have w1 : (w == "do") = false := by simpa using w1
        cases w2 : (w == "call" || w == "pass") with
        | true => rw [w2] at hin; simp [d_is_choice, b_is_choice, t2, hlen, l0, l2, l3, i0, isTy, w1, hin]; exact fin_0 rfl
        | false =>
          rw [w2] at hin
          by_cases w3 : w = "back"
          · subst w3; simp [d_is_choice, b_is_choice, t2, hlen, l0, l2, l3, i0, isTy, w1, hin]; exact fin_0 rfl
          have w3 : (w == "back") = false := by simpa using w3
          by_cases w4 : w = "change"
          · subst w4; simp [d_is_choice, b_is_choice, t2, hlen, l0, l2, l3, i0, isTy, w1, w3, hin]; exact fin_0 rfl
          have w4 : (w == "change") = false := by simpa using w4
          simp [d_is_choice, b_is_choice, t2, hlen, l0, l2, l3, i0, isTy, w1, w3, w4, hin]; exact fin_0 rfl
  | ref n => simp [closed] at hc
  | fn n => simp [closed] at hc
  | _ =>
    simp only [isT] at t2
    simp [d_is_choice, b_is_choice, t2, choB]
    exact fin_0 rfl
end PyD.K55

namespace PyD.K55
open PyD
variable {fuel : Nat}
/-! ### values that are not too long -/
mutual
def smD : D → Bool
  | .tup ds => decide (ds.length ≤ 1000) && smDs ds
  | .lst ds => smDs ds
  | .rol ds => smDs ds
  | .non => true | .bl _ => true | .int _ => true | .str _ => true | .ref _ => true | .fn _ => true
def smDs : List D → Bool
  | [] => true
  | d :: ds => smD d && smDs ds
end
theorem smDs_mem : ∀ {ds : List D} {d : D}, smDs ds = true → d ∈ ds → smD d = true
  | d :: ds, x, h, hm => by
    simp only [smDs, Bool.and_eq_true] at h
    rcases List.mem_cons.mp hm with rfl | hm
    · exact h.1
    · exact smDs_mem h.2 hm
theorem smD_t {ds : List D} (h : smD (.tup ds) = true) : ds.length ≤ 1000 ∧ smDs ds = true := by
  simpa [smD] using h
theorem smD_at {ds : List D} {x : D} (h : smD (.tup ds) = true) (hm : x ∈ ds) : smD x = true := smDs_mem (smD_t h).2 hm
def numsT : D → Bool
  | .tup ds => ds.all fun x => numB x 0 none
  | _ => false
def lenD : D → Nat
  | .tup ds => ds.length
  | _ => 0
def numsN (v : D) (m : Int) : Bool := match v with
  | .tup ds => ((ds.length : Int) == m) && ds.all (fun x => numB x 0 none)
  | _ => false
theorem numbers0_run {k : Nat} (hk : 3 ≤ k) (v : D) (hc : closed v = true) (hs : smD v = true) (m : Int) : tabF L fuel k 3 [v, .int m, .int 0, .non] [] = some (.bl (numsN v m), []) := by
  obtain ⟨k, rfl⟩ : ∃ m, k = m + 1 := ⟨k - 1, by omega⟩
  have t2 : ∀ h, callC (tabF L fuel k 2) [v, .int m] h = some (.bl (match v with
    | .tup ds => ((ds.length : Int) == m)
    | _ => false), h) := fun h => by
    have := callV (h := h) (by simp [hc, closeds, closed]) (tupn_run (fuel := fuel) (k := k) (by omega) v hc (some m)) rfl
    rw [show vE (some m) = .int m from rfl] at this
    exact this.trans (by cases v <;> rfl)
  rw [tab_step (d := d_is_numbers) rfl]
  cases v with
  | tup ds =>
    simp only at t2
    have hds : closeds ds = true := hc
    have hln := (smD_t hs).1
    have cc := compL_map (σ := [some (.tup ds), some (.int m), some (.int 0), some .non, none]) (tg := .v 4) (len := ds.length) (c := tstO (tabF L fuel k) (.so (.not (.call 1 (.cons (.var 4) (.cons (.var 2) (.cons (.var 3) .nil))))))) (e := ev (tabF L fuel k) (.var 4)) (h := []) (fun x => !numB x 0 none) (fun x => x) ds 0 (fun x hx => by
      have c1 := fun h => c_num0 (fuel := fuel) (k := k) (by omega) x (closeds_all' hds x hx) 0 h
      exact ⟨_, rfl, by simp [c1, truth], fun _ => by simp⟩)
    have hlen := filter_len (fun x => numB x 0 none) ds
    have hlim : ds.length ≤ lim := by simp [lim]; omega
    simp only [numsN]
    cases hm : ((ds.length : Int) == m) with
    | false =>
      rw [hm] at t2
      generalize D.tup ds = V at *
      simp [d_is_numbers, b_is_numbers, t2]
      exact fin_0 rfl
    | true =>
      rw [hm] at t2
      have hit : ∀ H, items (.tup ds) H = some ds := fun H => rfl
      have hz : ∀ b, (((ds.filter (fun x => !numB x 0 none)).length : Nat) == 0) = b → ((((ds.filter (fun x => !numB x 0 none)).length : Nat) : Int) == 0) = b := fun b hb => by
        rw [← hb]; rw [Bool.eq_iff_iff]; simp
      have hz := hz _ hlen
      generalize hFL : ds.filter (fun x => !numB x 0 none) = FL at *
      simp [d_is_numbers, b_is_numbers, t2, hit, kComp_ap, hlim]
      rw [cc]
      simp [hz]
      exact fin_0 rfl
  | ref n => simp [closed] at hc
  | fn n => simp [closed] at hc
  | _ =>
    simp only at t2
    simp [d_is_numbers, b_is_numbers, t2, numsN]
    exact fin_0 rfl
theorem c_nums {k : Nat} (hk : 3 ≤ k) (v : D) (hc : closed v = true) (hs : smD v = true) (m : Int) (h : AH) : callC (tabF L fuel k 3) [v, .int m, .int 0, .non] h = some (.bl (numsN v m), h) := callV (by simp [hc, closeds, closed]) (numbers0_run hk v hc hs m) rfl
theorem c_choice {k : Nat} (hk : 3 ≤ k) (v : D) (hc : closed v = true) (h : AH) : callC (tabF L fuel k 6) [v] h = some (.bl (choB v), h) := callV (by simp [hc, closeds]) (choice_run hk v hc) rfl
end PyD.K55

namespace PyD.K55
open PyD
variable {fuel : Nat}
/-! ### forms -/
def hw (x : D) (w : String) : Bool := match x with
  | .str s => s == w
  | _ => false
theorem hw_no {x : D} (hx : ∀ w, x ≠ .str w) (w : String) : hw x w = false := by
  cases x with
  | str s => exact absurd rfl (hx s)
  | _ => rfl
def isS : D → Bool
  | .str _ => true
  | _ => false
def wordD : D → Bool
  | .str s => s == "done" || s == "void"
  | _ => false
def hd0 : D → D
  | .tup (x :: _) => x
  | _ => .non
theorem cl_at {ds : List D} {x : D} (h : closed (.tup ds) = true) (hm : x ∈ ds) : closed x = true := closeds_mem (by simpa [closed] using h) hm
theorem depDs_mem : ∀ {ds : List D} {x : D}, x ∈ ds → depD x ≤ depDs ds
  | y :: ds, x, hm => by
    rcases List.mem_cons.1 hm with rfl | hm
    · simp only [depDs]; omega
    · have := depDs_mem hm; simp only [depDs]; omega
theorem dep_at {ds : List D} {x : D} (h : depD (.tup ds) ≤ 50) (hm : x ∈ ds) : depD x ≤ 50 := by
  have := depDs_mem hm
  simp only [depD] at h
  omega
theorem isty_s {v : D} (hc : closed v = true) (H : AH) : isTyH v .str H = some (isS v) := by
  cases v with
  | ref n => simp [closed] at hc
  | fn n => simp [closed] at hc
  | _ => rfl
theorem notin_w {d : D} (z : isS d = true) (h : AH) : cmpop .notin d (.tup [.str "done", .str "void"]) h = some (!wordD d) := by
  cases d with
  | str w =>
    have h1 : ("done" == w) = (w == "done") := by rw [Bool.eq_iff_iff]; simp only [beq_iff_eq]; exact ⟨Eq.symm, Eq.symm⟩
    have h2 : ("void" == w) = (w == "void") := by rw [Bool.eq_iff_iff]; simp only [beq_iff_eq]; exact ⟨Eq.symm, Eq.symm⟩
    simp [cmpop, items, flat, beqD, h1, h2, wordD]
  | _ => simp [isS] at z
theorem len_isT {v : D} (z : isT v = true) (H : AH) : bltf .len [v] H = some (.int (lenD v)) := by
  cases v with
  | tup ds => rfl
  | _ => simp [isT] at z
theorem c_numsT {k : Nat} (hk : 3 ≤ k) (v : D) (hc : closed v = true) (hs : smD v = true) (h : AH) : callC (tabF L fuel k 3) [v, .int (lenD v), .int 0, .non] h = some (.bl (numsT v), h) := by
  rw [c_nums hk v hc hs]
  cases v with
  | tup ds => simp [numsN, numsT, lenD]
  | _ => rfl
theorem cho_hd {v : D} (z : choB v = true) (H : AH) : index v (.int 0) H = some (hd0 v) := by
  unfold choB at z
  split at z
  · exact ixs (n := 0) rfl H
  · exact ixs (n := 0) rfl H
  · simp at z
theorem cho_hp {v : D} (z : choB v = true) (H : AH) : cmpop .eq (hd0 v) (.str "pass") H = some (hw (hd0 v) "pass") := by
  unfold choB at z
  split at z
  · rfl
  · rfl
  · simp at z
theorem nin346 (m : Int) (H : AH) : cmpop .notin (.int m) (.tup [.int 3, .int 4, .int 6]) H = some (!(m == 3 || m == 4 || m == 6)) := by
  have h1 : ((3 : Int) == m) = (m == 3) := by rw [Bool.eq_iff_iff]; simp only [beq_iff_eq]; exact ⟨Eq.symm, Eq.symm⟩
  have h2 : ((4 : Int) == m) = (m == 4) := by rw [Bool.eq_iff_iff]; simp only [beq_iff_eq]; exact ⟨Eq.symm, Eq.symm⟩
  have h3 : ((6 : Int) == m) = (m == 6) := by rw [Bool.eq_iff_iff]; simp only [beq_iff_eq]; exact ⟨Eq.symm, Eq.symm⟩
  simp [cmpop, items, flat, beqD, h1, h2, h3, Bool.and_assoc]

def choH : D → Bool
  | .tup [x, a] => ((hw x "call" || hw x "pass") && numB a 0 none)
  | .tup [x, a, b] => (if hw x "do" then numB a 0 none && (isN b || numB b 0 none) else if hw x "back" then numB a 0 none && isT b else hw x "change" && isT b)
  | _ => false
theorem choH_other {v : D} (h : isT v = false) : choH v = false := by
  cases v <;> first | rfl | simp [isT] at h
theorem choH_nil : choH (.tup []) = false := rfl
theorem choH_1 {x : D} : choH (.tup [x]) = false := rfl
theorem choH_4 {x a b c : D} : choH (.tup [x, a, b, c]) = false := rfl
theorem choH_5 {x a b c d : D} : choH (.tup [x, a, b, c, d]) = false := rfl
theorem choH_6 {x a b c d e : D} : choH (.tup [x, a, b, c, d, e]) = false := rfl
theorem choH_7 {x a b c d e f : D} {r : List D} : choH (.tup (x :: a :: b :: c :: d :: e :: f :: r)) = false := rfl
def seenB : D → Bool
  | .tup [x, a] => ((hw x "call" || hw x "pass") && numB a 0 none)
  | .tup [x, a, b, c] => (hw x "do" && (numB a 0 none && (isN b || numB b 0 none)) && isT c && numsT c)
  | _ => false
theorem seenB_other {v : D} (h : isT v = false) : seenB v = false := by
  cases v <;> first | rfl | simp [isT] at h
theorem seenB_nil : seenB (.tup []) = false := rfl
theorem seenB_1 {x : D} : seenB (.tup [x]) = false := rfl
theorem seenB_3 {x a b : D} : seenB (.tup [x, a, b]) = false := rfl
theorem seenB_5 {x a b c d : D} : seenB (.tup [x, a, b, c, d]) = false := rfl
theorem seenB_6 {x a b c d e : D} : seenB (.tup [x, a, b, c, d, e]) = false := rfl
theorem seenB_7 {x a b c d e f : D} {r : List D} : seenB (.tup (x :: a :: b :: c :: d :: e :: f :: r)) = false := rfl
def courB (mn : Int) : D → Bool
  | .tup [x, a, b, c, d] => (numB a 0 (some (mn - 1)) && numB b 0 none && isS d && wordD d && hw x "change")
  | .tup [x, a, b, c, d, e] => (numB a 0 (some (mn - 1)) && numB b 0 none && isS d && wordD d && !hw x "change" && numB c 0 none && isT e && numsT e)
  | _ => false
theorem courB_other {mn : Int} {v : D} (h : isT v = false) : courB mn v = false := by
  cases v <;> first | rfl | simp [isT] at h
theorem courB_nil {mn : Int} : courB mn (.tup []) = false := rfl
theorem courB_1 {mn : Int} {x : D} : courB mn (.tup [x]) = false := rfl
theorem courB_2 {mn : Int} {x a : D} : courB mn (.tup [x, a]) = false := rfl
theorem courB_3 {mn : Int} {x a b : D} : courB mn (.tup [x, a, b]) = false := rfl
theorem courB_4 {mn : Int} {x a b c : D} : courB mn (.tup [x, a, b, c]) = false := rfl
theorem courB_7 {mn : Int} {x a b c d e f : D} {r : List D} : courB mn (.tup (x :: a :: b :: c :: d :: e :: f :: r)) = false := rfl
def bodyB (mn : Int) : D → Bool
  | .tup [x] => (hw x "dawn")
  | .tup [x, a] => (hw x "silent" && choB a && hw (hd0 a) "pass")
  | .tup [x, a, b] => (hw x "void" && numB a 0 (some (mn - 1)) && numB b 0 none)
  | .tup [x, a, b, c] => (hw x "done" && numB a 0 (some (mn - 1)) && numB b 0 none && seenB c)
  | .tup [x, a, b, c, d] => (hw x "change" && numB a 0 (some (mn - 1)) && numB b 0 none && isS d && wordD d)
  | .tup [x, a, b, c, d, e] => (hw x "back" && numB a 0 (some (mn - 1)) && numB b 0 none && isS d && wordD d && numB c 0 none && isT e && numsT e)
  | _ => false
theorem bodyB_other {mn : Int} {v : D} (h : isT v = false) : bodyB mn v = false := by
  cases v <;> first | rfl | simp [isT] at h
theorem bodyB_nil {mn : Int} : bodyB mn (.tup []) = false := rfl
theorem bodyB_7 {mn : Int} {x a b c d e f : D} {r : List D} : bodyB mn (.tup (x :: a :: b :: c :: d :: e :: f :: r)) = false := rfl
def deskB (mn : Int) : D → Bool
  | .tup [x, a, b, c] => (numB a 0 (some (mn - 1)) && numB b 0 none && ((hw x "seen" && choB c) || (hw x "heard" && numB c 0 none)))
  | .tup [x, a, b, c, d, e] => (hw x "ask" && numB a 0 (some (mn - 1)) && numB b 0 none && choB c && numB d 0 none && numsN e 2)
  | _ => false
theorem deskB_other {mn : Int} {v : D} (h : isT v = false) : deskB mn v = false := by
  cases v <;> first | rfl | simp [isT] at h
theorem deskB_nil {mn : Int} : deskB mn (.tup []) = false := rfl
theorem deskB_1 {mn : Int} {x : D} : deskB mn (.tup [x]) = false := rfl
theorem deskB_2 {mn : Int} {x a : D} : deskB mn (.tup [x, a]) = false := rfl
theorem deskB_3 {mn : Int} {x a b : D} : deskB mn (.tup [x, a, b]) = false := rfl
theorem deskB_5 {mn : Int} {x a b c d : D} : deskB mn (.tup [x, a, b, c, d]) = false := rfl
theorem deskB_7 {mn : Int} {x a b c d e f : D} {r : List D} : deskB mn (.tup (x :: a :: b :: c :: d :: e :: f :: r)) = false := rfl
def agrB (mn : Int) : D → Bool
  | .tup [x, a, b] => (hw x "agree" && numB a 0 (some (mn - 1)))
  | _ => false
theorem agrB_other {mn : Int} {v : D} (h : isT v = false) : agrB mn v = false := by
  cases v <;> first | rfl | simp [isT] at h
theorem agrB_nil {mn : Int} : agrB mn (.tup []) = false := rfl
theorem agrB_1 {mn : Int} {x : D} : agrB mn (.tup [x]) = false := rfl
theorem agrB_2 {mn : Int} {x a : D} : agrB mn (.tup [x, a]) = false := rfl
theorem agrB_4 {mn : Int} {x a b c : D} : agrB mn (.tup [x, a, b, c]) = false := rfl
theorem agrB_5 {mn : Int} {x a b c d : D} : agrB mn (.tup [x, a, b, c, d]) = false := rfl
theorem agrB_6 {mn : Int} {x a b c d e : D} : agrB mn (.tup [x, a, b, c, d, e]) = false := rfl
theorem agrB_7 {mn : Int} {x a b c d e f : D} {r : List D} : agrB mn (.tup (x :: a :: b :: c :: d :: e :: f :: r)) = false := rfl
def letB (mn : Int) : D → Bool
  | .tup [x, a, b] => (hw x "agree" && numB a 0 (some (mn - 1)))
  | .tup [x, a, b, c] => ((hw x "row" && numB a 0 none && bodyB mn b && numB c 0 none) || (hw x "took" && numB a 0 (some (mn - 1)) && numB b 0 none && numB c 0 none) || (numB a 0 (some (mn - 1)) && numB b 0 none && ((hw x "seen" && choB c) || (hw x "heard" && numB c 0 none))))
  | .tup [x, a, b, c, d, e] => (hw x "ask" && numB a 0 (some (mn - 1)) && numB b 0 none && choB c && numB d 0 none && numsN e 2)
  | _ => false
theorem letB_other {mn : Int} {v : D} (h : isT v = false) : letB mn v = false := by
  cases v <;> first | rfl | simp [isT] at h
theorem letB_nil {mn : Int} : letB mn (.tup []) = false := rfl
theorem letB_1 {mn : Int} {x : D} : letB mn (.tup [x]) = false := rfl
theorem letB_2 {mn : Int} {x a : D} : letB mn (.tup [x, a]) = false := rfl
theorem letB_5 {mn : Int} {x a b c d : D} : letB mn (.tup [x, a, b, c, d]) = false := rfl
theorem letB_7 {mn : Int} {x a b c d e f : D} {r : List D} : letB mn (.tup (x :: a :: b :: c :: d :: e :: f :: r)) = false := rfl
theorem cho_eq (v : D) : choB v = choH v := by
  unfold choB
  split
  · rfl
  · rfl
  · rename_i h1 h2
    unfold choH
    split
    · rename_i x a
      cases x with
      | str w => exact absurd rfl (h1 w a)
      | _ => simp [hw]
    · rename_i x a b
      cases x with
      | str w => exact absurd rfl (h2 w a b)
      | _ => simp [hw]
    · rfl
theorem c_choH {k : Nat} (hk : 3 ≤ k) (v : D) (hc : closed v = true) (h : AH) : callC (tabF L fuel k 6) [v] h = some (.bl (choH v), h) := by
  rw [c_choice hk v hc, cho_eq]
theorem eq_dawn {v : D} (hc : closed v = true) (hd : depD v ≤ 50) (H : AH) : cmpop .eq v (.tup [.str "dawn"]) H = some (eqD v (.tup [.str "dawn"])) := by
  have h1 : rsv v H = v := by
    cases v with
    | ref n => simp [closed] at hc
    | _ => rfl
  have h2 : rsv (.tup [.str "dawn"]) H = .tup [.str "dawn"] := rfl
  have h3 : closed (.tup [.str "dawn"]) = true := rfl
  have h4 : depD (.tup [.str "dawn"]) ≤ 60 := by decide
  simp only [cmpop, eqO, h1, h2, hc, h3]
  rw [if_pos (by simp [h4]; omega)]
theorem seenB_head {x : D} {r : List D} (hx : ∀ w, x ≠ .str w) : seenB (.tup (x :: r)) = false := by
  have e : ∀ w, hw x w = false := fun w => hw_no hx w
  unfold seenB
  split
  · rename_i hh
    simp only [D.tup.injEq, List.cons.injEq] at hh
    rw [← hh.1] at *
    simp [e]
  · rename_i hh
    simp only [D.tup.injEq, List.cons.injEq] at hh
    rw [← hh.1] at *
    simp [e]
  · rfl
theorem bodyB_head {mn : Int} {x : D} {r : List D} (hx : ∀ w, x ≠ .str w) : bodyB mn (.tup (x :: r)) = false := by
  have e : ∀ w, hw x w = false := fun w => hw_no hx w
  unfold bodyB
  split
  · rename_i hh
    simp only [D.tup.injEq, List.cons.injEq] at hh
    rw [← hh.1] at *
    simp [e]
  · rename_i hh
    simp only [D.tup.injEq, List.cons.injEq] at hh
    rw [← hh.1] at *
    simp [e]
  · rename_i hh
    simp only [D.tup.injEq, List.cons.injEq] at hh
    rw [← hh.1] at *
    simp [e]
  · rename_i hh
    simp only [D.tup.injEq, List.cons.injEq] at hh
    rw [← hh.1] at *
    simp [e]
  · rename_i hh
    simp only [D.tup.injEq, List.cons.injEq] at hh
    rw [← hh.1] at *
    simp [e]
  · rename_i hh
    simp only [D.tup.injEq, List.cons.injEq] at hh
    rw [← hh.1] at *
    simp [e]
  · rfl
theorem letB_head {mn : Int} {x : D} {r : List D} (hx : ∀ w, x ≠ .str w) : letB mn (.tup (x :: r)) = false := by
  have e : ∀ w, hw x w = false := fun w => hw_no hx w
  unfold letB
  split
  · rename_i hh
    simp only [D.tup.injEq, List.cons.injEq] at hh
    rw [← hh.1] at *
    simp [e]
  · rename_i hh
    simp only [D.tup.injEq, List.cons.injEq] at hh
    rw [← hh.1] at *
    simp [e]
  · rename_i hh
    simp only [D.tup.injEq, List.cons.injEq] at hh
    rw [← hh.1] at *
    simp [e]
  · rfl
theorem cl_take {ds : List D} (n : Nat) (h : closed (.tup ds) = true) : closed (.tup (ds.take n)) = true := by
  simp only [closed] at h ⊢
  exact closeds_takeD n h
theorem seen_run {k : Nat} (hk : 4 ≤ k) (v : D) (hc : closed v = true) (hs : smD v = true) (hd : depD v ≤ 50) : tabF L fuel k 7 [v] [] = some (.bl (seenB v), []) := by
  obtain ⟨k, rfl⟩ : ∃ m, k = m + 1 := ⟨k - 1, by omega⟩
  have t2 := fun h => c_istup (fuel := fuel) (k := k) (by omega) v hc h
  rw [tab_step (d := d_is_seen) rfl]
  cases v with
  | ref n => simp [closed] at hc
  | fn n => simp [closed] at hc
  | tup ds =>
    simp only [isT] at t2
    match ds, hc, hs, hd with
    | [], hc, hs, hd => (simp [d_is_seen, b_is_seen, t2, seenB_nil, hw, isin2, -PyD.is_non, Bool.or_false, Bool.and_false]; try exact fin_0 rfl)
    | x :: r, hc, hs, hd =>
      have cx : closed x = true := cl_at hc (by simp)
      by_cases hx : ∃ w, x = .str w
      case neg =>
        have hx : ∀ w, x ≠ .str w := fun w z => hx ⟨w, z⟩
        rw [seenB_head hx]
        have hlen : ∀ H, bltf .len [.tup (x :: r)] H = some (.int ((r.length : Nat) + 1 : Int)) := fun H => by rw [len_tup]; simp
        have l0 : (((r.length : Nat) : Int) + 1 == 0) = false := by rw [beq_eq_false_iff_ne]; omega
        have i0 : ∀ H, index (.tup (x :: r)) (.int 0) H = some x := fun H => ixs (n := 0) rfl H
        have hst := notstr cx hx
        generalize D.tup (x :: r) = V at *
        (simp [d_is_seen, b_is_seen, t2, hlen, l0, i0, hst, hw, isin2, -PyD.is_non, Bool.or_false, Bool.and_false]; try exact fin_0 rfl)
      obtain ⟨w, rfl⟩ := hx
      match r, hc, hs, hd with
      | [], hc, hs, hd =>
        have i0 : ∀ H, index (.tup [.str w]) (.int 0) H = some (.str w) := fun H => ixs (n := 0) rfl H
        have hlen : ∀ H, bltf .len [.tup [.str w]] H = some (.int 1) := fun _ => rfl
        have cV : ∀ h, callC (tabF L fuel k 6) [.tup [.str w]] h = some (.bl false, h) := fun h => c_choH (fuel := fuel) (k := k) (by omega) _ hc h
        have hsp : seenB (.tup [.str w]) = false := rfl
        rw [hsp]; clear hsp
        generalize D.tup [.str w] = V at *
        by_cases w0 : w = "do"
        · subst w0; (simp [d_is_seen, b_is_seen, t2, isTy, i0, hlen, cV, hw, isin2, -PyD.is_non, Bool.or_false, Bool.and_false]; try exact fin_0 rfl)
        have w0 : (w == "do") = false := by simpa using w0
        by_cases w1 : w = "call"
        · subst w1; (simp [d_is_seen, b_is_seen, t2, isTy, i0, hlen, cV, w0, hw, isin2, -PyD.is_non, Bool.or_false, Bool.and_false]; try exact fin_0 rfl)
        have w1 : (w == "call") = false := by simpa using w1
        by_cases w2 : w = "pass"
        · subst w2; (simp [d_is_seen, b_is_seen, t2, isTy, i0, hlen, cV, w0, w1, hw, isin2, -PyD.is_non, Bool.or_false, Bool.and_false]; try exact fin_0 rfl)
        have w2 : (w == "pass") = false := by simpa using w2
        (simp [d_is_seen, b_is_seen, t2, isTy, i0, hlen, cV, w0, w1, w2, hw, isin2, -PyD.is_non, Bool.or_false, Bool.and_false]; try exact fin_0 rfl)
      | [a], hc, hs, hd =>
        have ca : closed a = true := cl_at hc (by simp)
        have sa : smD a = true := smD_at hs (by simp)
        have da : depD a ≤ 50 := dep_at hd (by simp)
        have n0a : ∀ h, callC (tabF L fuel k 1) [a, .int 0, .non] h = some (.bl (numB a 0 none), h) := fun h => c_num0 (fuel := fuel) (k := k) (by omega) a ca 0 h
        have i0 : ∀ H, index (.tup [.str w, a]) (.int 0) H = some (.str w) := fun H => ixs (n := 0) rfl H
        have i1 : ∀ H, index (.tup [.str w, a]) (.int 1) H = some a := fun H => ixs (n := 1) rfl H
        have hlen : ∀ H, bltf .len [.tup [.str w, a]] H = some (.int 2) := fun _ => rfl
        have cV : ∀ h, callC (tabF L fuel k 6) [.tup [.str w, a]] h = some (.bl ((hw (.str w) "call" || hw (.str w) "pass") && numB a 0 none), h) := fun h => c_choH (fuel := fuel) (k := k) (by omega) _ hc h
        have hsp : seenB (.tup [.str w, a]) = ((hw (.str w) "call" || hw (.str w) "pass") && numB a 0 none) := rfl
        rw [hsp]; clear hsp
        generalize D.tup [.str w, a] = V at *
        generalize numB a 0 none = B0 at *
        by_cases w0 : w = "do"
        · subst w0; cases B0 <;> (simp [d_is_seen, b_is_seen, t2, isTy, n0a, i0, i1, hlen, cV, hw, isin2, -PyD.is_non, Bool.or_false, Bool.and_false]; try exact fin_0 rfl)
        have w0 : (w == "do") = false := by simpa using w0
        by_cases w1 : w = "call"
        · subst w1; cases B0 <;> (simp [d_is_seen, b_is_seen, t2, isTy, n0a, i0, i1, hlen, cV, w0, hw, isin2, -PyD.is_non, Bool.or_false, Bool.and_false]; try exact fin_0 rfl)
        have w1 : (w == "call") = false := by simpa using w1
        by_cases w2 : w = "pass"
        · subst w2; cases B0 <;> (simp [d_is_seen, b_is_seen, t2, isTy, n0a, i0, i1, hlen, cV, w0, w1, hw, isin2, -PyD.is_non, Bool.or_false, Bool.and_false]; try exact fin_0 rfl)
        have w2 : (w == "pass") = false := by simpa using w2
        cases B0 <;> (simp [d_is_seen, b_is_seen, t2, isTy, n0a, i0, i1, hlen, cV, w0, w1, w2, hw, isin2, -PyD.is_non, Bool.or_false, Bool.and_false]; try exact fin_0 rfl)
      | [a, b], hc, hs, hd =>
        have ca : closed a = true := cl_at hc (by simp)
        have sa : smD a = true := smD_at hs (by simp)
        have da : depD a ≤ 50 := dep_at hd (by simp)
        have cb : closed b = true := cl_at hc (by simp)
        have sb : smD b = true := smD_at hs (by simp)
        have db : depD b ≤ 50 := dep_at hd (by simp)
        have i0 : ∀ H, index (.tup [.str w, a, b]) (.int 0) H = some (.str w) := fun H => ixs (n := 0) rfl H
        have i1 : ∀ H, index (.tup [.str w, a, b]) (.int 1) H = some a := fun H => ixs (n := 1) rfl H
        have i2 : ∀ H, index (.tup [.str w, a, b]) (.int 2) H = some b := fun H => ixs (n := 2) rfl H
        have hlen : ∀ H, bltf .len [.tup [.str w, a, b]] H = some (.int 3) := fun _ => rfl
        have cV : ∀ h, callC (tabF L fuel k 6) [.tup [.str w, a, b]] h = some (.bl (if hw (.str w) "do" then numB a 0 none && (isN b || numB b 0 none) else if hw (.str w) "back" then numB a 0 none && isT b else hw (.str w) "change" && isT b), h) := fun h => c_choH (fuel := fuel) (k := k) (by omega) _ hc h
        have hsp : seenB (.tup [.str w, a, b]) = false := rfl
        rw [hsp]; clear hsp
        generalize D.tup [.str w, a, b] = V at *
        by_cases w0 : w = "do"
        · subst w0; (simp [d_is_seen, b_is_seen, t2, isTy, i0, i1, i2, hlen, cV, hw, isin2, -PyD.is_non, Bool.or_false, Bool.and_false]; try exact fin_0 rfl)
        have w0 : (w == "do") = false := by simpa using w0
        by_cases w1 : w = "call"
        · subst w1; (simp [d_is_seen, b_is_seen, t2, isTy, i0, i1, i2, hlen, cV, w0, hw, isin2, -PyD.is_non, Bool.or_false, Bool.and_false]; try exact fin_0 rfl)
        have w1 : (w == "call") = false := by simpa using w1
        by_cases w2 : w = "pass"
        · subst w2; (simp [d_is_seen, b_is_seen, t2, isTy, i0, i1, i2, hlen, cV, w0, w1, hw, isin2, -PyD.is_non, Bool.or_false, Bool.and_false]; try exact fin_0 rfl)
        have w2 : (w == "pass") = false := by simpa using w2
        (simp [d_is_seen, b_is_seen, t2, isTy, i0, i1, i2, hlen, cV, w0, w1, w2, hw, isin2, -PyD.is_non, Bool.or_false, Bool.and_false]; try exact fin_0 rfl)
      | [a, b, c], hc, hs, hd =>
        have ca : closed a = true := cl_at hc (by simp)
        have sa : smD a = true := smD_at hs (by simp)
        have da : depD a ≤ 50 := dep_at hd (by simp)
        have cb : closed b = true := cl_at hc (by simp)
        have sb : smD b = true := smD_at hs (by simp)
        have db : depD b ≤ 50 := dep_at hd (by simp)
        have cc : closed c = true := cl_at hc (by simp)
        have sc : smD c = true := smD_at hs (by simp)
        have dc : depD c ≤ 50 := dep_at hd (by simp)
        have itc : ∀ h, callC (tabF L fuel k 2) [c, .non] h = some (.bl (isT c), h) := fun h => c_istup (fuel := fuel) (k := k) (by omega) c cc h
        have lnc : isT c = true → ∀ H, bltf .len [c] H = some (.int (lenD c)) := fun z H => len_isT z H
        have nsc : ∀ h, callC (tabF L fuel k 3) [c, .int (lenD c), .int 0, .non] h = some (.bl (numsT c), h) := fun h => c_numsT (fuel := fuel) (k := k) (by omega) c cc sc h
        have n0a : ∀ h, callC (tabF L fuel k 1) [a, .int 0, .non] h = some (.bl (numB a 0 none), h) := fun h => c_num0 (fuel := fuel) (k := k) (by omega) a ca 0 h
        have inb : ∀ h, cmpop .is b .non h = some (isN b) := fun h => is_non b cb h
        have n0b : ∀ h, callC (tabF L fuel k 1) [b, .int 0, .non] h = some (.bl (numB b 0 none), h) := fun h => c_num0 (fuel := fuel) (k := k) (by omega) b cb 0 h
        have i0 : ∀ H, index (.tup [.str w, a, b, c]) (.int 0) H = some (.str w) := fun H => ixs (n := 0) rfl H
        have i1 : ∀ H, index (.tup [.str w, a, b, c]) (.int 1) H = some a := fun H => ixs (n := 1) rfl H
        have i2 : ∀ H, index (.tup [.str w, a, b, c]) (.int 2) H = some b := fun H => ixs (n := 2) rfl H
        have i3 : ∀ H, index (.tup [.str w, a, b, c]) (.int 3) H = some c := fun H => ixs (n := 3) rfl H
        have hlen : ∀ H, bltf .len [.tup [.str w, a, b, c]] H = some (.int 4) := fun _ => rfl
        have cV : ∀ h, callC (tabF L fuel k 6) [.tup [.str w, a, b, c]] h = some (.bl false, h) := fun h => c_choH (fuel := fuel) (k := k) (by omega) _ hc h
        have hsl : ∀ H, kSlc3 (.tup [.str w, a, b, c]) none (some 3, H) = some (.tup [.str w, a, b], H) := fun _ => rfl
        have c3 : ∀ h, callC (tabF L fuel k 6) [.tup [.str w, a, b]] h = some (.bl (if hw (.str w) "do" then numB a 0 none && (isN b || numB b 0 none) else if hw (.str w) "back" then numB a 0 none && isT b else hw (.str w) "change" && isT b), h) := fun h => c_choH (fuel := fuel) (k := k) (by omega) _ (cl_take 3 hc) h
        have hsp : seenB (.tup [.str w, a, b, c]) = (hw (.str w) "do" && (numB a 0 none && (isN b || numB b 0 none)) && isT c && numsT c) := rfl
        rw [hsp]; clear hsp
        generalize D.tup [.str w, a, b, c] = V at *
        generalize isT c = B0 at *
        generalize numsT c = B1 at *
        generalize numB a 0 none = B2 at *
        generalize isN b = B3 at *
        generalize numB b 0 none = B4 at *
        by_cases w0 : w = "do"
        · subst w0; cases B0 <;> cases B1 <;> cases B2 <;> cases B3 <;> cases B4 <;> (simp [d_is_seen, b_is_seen, t2, isTy, itc, lnc, nsc, n0a, inb, n0b, i0, i1, i2, i3, hlen, cV, hsl, c3, hw, isin2, -PyD.is_non, Bool.or_false, Bool.and_false]; try exact fin_0 rfl)
        have w0 : (w == "do") = false := by simpa using w0
        by_cases w1 : w = "call"
        · subst w1; cases B0 <;> cases B1 <;> cases B2 <;> cases B3 <;> cases B4 <;> (simp [d_is_seen, b_is_seen, t2, isTy, itc, lnc, nsc, n0a, inb, n0b, i0, i1, i2, i3, hlen, cV, hsl, c3, w0, hw, isin2, -PyD.is_non, Bool.or_false, Bool.and_false]; try exact fin_0 rfl)
        have w1 : (w == "call") = false := by simpa using w1
        by_cases w2 : w = "pass"
        · subst w2; cases B0 <;> cases B1 <;> cases B2 <;> cases B3 <;> cases B4 <;> (simp [d_is_seen, b_is_seen, t2, isTy, itc, lnc, nsc, n0a, inb, n0b, i0, i1, i2, i3, hlen, cV, hsl, c3, w0, w1, hw, isin2, -PyD.is_non, Bool.or_false, Bool.and_false]; try exact fin_0 rfl)
        have w2 : (w == "pass") = false := by simpa using w2
        cases B0 <;> cases B1 <;> cases B2 <;> cases B3 <;> cases B4 <;> (simp [d_is_seen, b_is_seen, t2, isTy, itc, lnc, nsc, n0a, inb, n0b, i0, i1, i2, i3, hlen, cV, hsl, c3, w0, w1, w2, hw, isin2, -PyD.is_non, Bool.or_false, Bool.and_false]; try exact fin_0 rfl)
      | [a, b, c, d], hc, hs, hd =>
        have ca : closed a = true := cl_at hc (by simp)
        have sa : smD a = true := smD_at hs (by simp)
        have da : depD a ≤ 50 := dep_at hd (by simp)
        have cb : closed b = true := cl_at hc (by simp)
        have sb : smD b = true := smD_at hs (by simp)
        have db : depD b ≤ 50 := dep_at hd (by simp)
        have cc : closed c = true := cl_at hc (by simp)
        have sc : smD c = true := smD_at hs (by simp)
        have dc : depD c ≤ 50 := dep_at hd (by simp)
        have cd : closed d = true := cl_at hc (by simp)
        have sd : smD d = true := smD_at hs (by simp)
        have dd : depD d ≤ 50 := dep_at hd (by simp)
        have i0 : ∀ H, index (.tup [.str w, a, b, c, d]) (.int 0) H = some (.str w) := fun H => ixs (n := 0) rfl H
        have i1 : ∀ H, index (.tup [.str w, a, b, c, d]) (.int 1) H = some a := fun H => ixs (n := 1) rfl H
        have i2 : ∀ H, index (.tup [.str w, a, b, c, d]) (.int 2) H = some b := fun H => ixs (n := 2) rfl H
        have i3 : ∀ H, index (.tup [.str w, a, b, c, d]) (.int 3) H = some c := fun H => ixs (n := 3) rfl H
        have i4 : ∀ H, index (.tup [.str w, a, b, c, d]) (.int 4) H = some d := fun H => ixs (n := 4) rfl H
        have hlen : ∀ H, bltf .len [.tup [.str w, a, b, c, d]] H = some (.int 5) := fun _ => rfl
        have cV : ∀ h, callC (tabF L fuel k 6) [.tup [.str w, a, b, c, d]] h = some (.bl false, h) := fun h => c_choH (fuel := fuel) (k := k) (by omega) _ hc h
        have hsp : seenB (.tup [.str w, a, b, c, d]) = false := rfl
        rw [hsp]; clear hsp
        generalize D.tup [.str w, a, b, c, d] = V at *
        by_cases w0 : w = "do"
        · subst w0; (simp [d_is_seen, b_is_seen, t2, isTy, i0, i1, i2, i3, i4, hlen, cV, hw, isin2, -PyD.is_non, Bool.or_false, Bool.and_false]; try exact fin_0 rfl)
        have w0 : (w == "do") = false := by simpa using w0
        by_cases w1 : w = "call"
        · subst w1; (simp [d_is_seen, b_is_seen, t2, isTy, i0, i1, i2, i3, i4, hlen, cV, w0, hw, isin2, -PyD.is_non, Bool.or_false, Bool.and_false]; try exact fin_0 rfl)
        have w1 : (w == "call") = false := by simpa using w1
        by_cases w2 : w = "pass"
        · subst w2; (simp [d_is_seen, b_is_seen, t2, isTy, i0, i1, i2, i3, i4, hlen, cV, w0, w1, hw, isin2, -PyD.is_non, Bool.or_false, Bool.and_false]; try exact fin_0 rfl)
        have w2 : (w == "pass") = false := by simpa using w2
        (simp [d_is_seen, b_is_seen, t2, isTy, i0, i1, i2, i3, i4, hlen, cV, w0, w1, w2, hw, isin2, -PyD.is_non, Bool.or_false, Bool.and_false]; try exact fin_0 rfl)
      | [a, b, c, d, e], hc, hs, hd =>
        have ca : closed a = true := cl_at hc (by simp)
        have sa : smD a = true := smD_at hs (by simp)
        have da : depD a ≤ 50 := dep_at hd (by simp)
        have cb : closed b = true := cl_at hc (by simp)
        have sb : smD b = true := smD_at hs (by simp)
        have db : depD b ≤ 50 := dep_at hd (by simp)
        have cc : closed c = true := cl_at hc (by simp)
        have sc : smD c = true := smD_at hs (by simp)
        have dc : depD c ≤ 50 := dep_at hd (by simp)
        have cd : closed d = true := cl_at hc (by simp)
        have sd : smD d = true := smD_at hs (by simp)
        have dd : depD d ≤ 50 := dep_at hd (by simp)
        have ce : closed e = true := cl_at hc (by simp)
        have se : smD e = true := smD_at hs (by simp)
        have de : depD e ≤ 50 := dep_at hd (by simp)
        have i0 : ∀ H, index (.tup [.str w, a, b, c, d, e]) (.int 0) H = some (.str w) := fun H => ixs (n := 0) rfl H
        have i1 : ∀ H, index (.tup [.str w, a, b, c, d, e]) (.int 1) H = some a := fun H => ixs (n := 1) rfl H
        have i2 : ∀ H, index (.tup [.str w, a, b, c, d, e]) (.int 2) H = some b := fun H => ixs (n := 2) rfl H
        have i3 : ∀ H, index (.tup [.str w, a, b, c, d, e]) (.int 3) H = some c := fun H => ixs (n := 3) rfl H
        have i4 : ∀ H, index (.tup [.str w, a, b, c, d, e]) (.int 4) H = some d := fun H => ixs (n := 4) rfl H
        have i5 : ∀ H, index (.tup [.str w, a, b, c, d, e]) (.int 5) H = some e := fun H => ixs (n := 5) rfl H
        have hlen : ∀ H, bltf .len [.tup [.str w, a, b, c, d, e]] H = some (.int 6) := fun _ => rfl
        have cV : ∀ h, callC (tabF L fuel k 6) [.tup [.str w, a, b, c, d, e]] h = some (.bl false, h) := fun h => c_choH (fuel := fuel) (k := k) (by omega) _ hc h
        have hsp : seenB (.tup [.str w, a, b, c, d, e]) = false := rfl
        rw [hsp]; clear hsp
        generalize D.tup [.str w, a, b, c, d, e] = V at *
        by_cases w0 : w = "do"
        · subst w0; (simp [d_is_seen, b_is_seen, t2, isTy, i0, i1, i2, i3, i4, i5, hlen, cV, hw, isin2, -PyD.is_non, Bool.or_false, Bool.and_false]; try exact fin_0 rfl)
        have w0 : (w == "do") = false := by simpa using w0
        by_cases w1 : w = "call"
        · subst w1; (simp [d_is_seen, b_is_seen, t2, isTy, i0, i1, i2, i3, i4, i5, hlen, cV, w0, hw, isin2, -PyD.is_non, Bool.or_false, Bool.and_false]; try exact fin_0 rfl)
        have w1 : (w == "call") = false := by simpa using w1
        by_cases w2 : w = "pass"
        · subst w2; (simp [d_is_seen, b_is_seen, t2, isTy, i0, i1, i2, i3, i4, i5, hlen, cV, w0, w1, hw, isin2, -PyD.is_non, Bool.or_false, Bool.and_false]; try exact fin_0 rfl)
        have w2 : (w == "pass") = false := by simpa using w2
        (simp [d_is_seen, b_is_seen, t2, isTy, i0, i1, i2, i3, i4, i5, hlen, cV, w0, w1, w2, hw, isin2, -PyD.is_non, Bool.or_false, Bool.and_false]; try exact fin_0 rfl)
      | a :: b :: c :: d :: e :: f :: r, hc, hs, hd =>
        have ca : closed a = true := cl_at hc (by simp)
        have sa : smD a = true := smD_at hs (by simp)
        have da : depD a ≤ 50 := dep_at hd (by simp)
        have cb : closed b = true := cl_at hc (by simp)
        have sb : smD b = true := smD_at hs (by simp)
        have db : depD b ≤ 50 := dep_at hd (by simp)
        have cc : closed c = true := cl_at hc (by simp)
        have sc : smD c = true := smD_at hs (by simp)
        have dc : depD c ≤ 50 := dep_at hd (by simp)
        have cd : closed d = true := cl_at hc (by simp)
        have sd : smD d = true := smD_at hs (by simp)
        have dd : depD d ≤ 50 := dep_at hd (by simp)
        have ce : closed e = true := cl_at hc (by simp)
        have se : smD e = true := smD_at hs (by simp)
        have de : depD e ≤ 50 := dep_at hd (by simp)
        have i0 : ∀ H, index (.tup (.str w :: a :: b :: c :: d :: e :: f :: r)) (.int 0) H = some (.str w) := fun H => ixs (n := 0) rfl H
        have i1 : ∀ H, index (.tup (.str w :: a :: b :: c :: d :: e :: f :: r)) (.int 1) H = some a := fun H => ixs (n := 1) rfl H
        have i2 : ∀ H, index (.tup (.str w :: a :: b :: c :: d :: e :: f :: r)) (.int 2) H = some b := fun H => ixs (n := 2) rfl H
        have i3 : ∀ H, index (.tup (.str w :: a :: b :: c :: d :: e :: f :: r)) (.int 3) H = some c := fun H => ixs (n := 3) rfl H
        have i4 : ∀ H, index (.tup (.str w :: a :: b :: c :: d :: e :: f :: r)) (.int 4) H = some d := fun H => ixs (n := 4) rfl H
        have hlen : ∀ H, bltf .len [.tup (.str w :: a :: b :: c :: d :: e :: f :: r)] H = some (.int ((r.length : Nat) + 7 : Int)) := fun H => by rw [len_tup]; simp; omega
        have l0 : (((r.length : Nat) : Int) + 7 == 0) = false := by rw [beq_eq_false_iff_ne]; omega
        have l4 : (((r.length : Nat) : Int) + 7 == 4) = false := by rw [beq_eq_false_iff_ne]; omega
        have m4 : decide (((r.length : Nat) : Int) + 7 < 4) = false := by simp; omega
        have m4b : ¬ (((r.length : Nat) : Int) + 7 < 4) := by omega
        have m5 : decide (((r.length : Nat) : Int) + 7 < 5) = false := by simp; omega
        have m5b : ¬ (((r.length : Nat) : Int) + 7 < 5) := by omega
        have cV : ∀ h, callC (tabF L fuel k 6) [.tup (.str w :: a :: b :: c :: d :: e :: f :: r)] h = some (.bl false, h) := fun h => c_choH (fuel := fuel) (k := k) (by omega) _ hc h
        rw [seenB_7]
        generalize ((r.length : Nat) : Int) = LN at *
        generalize D.tup (.str w :: a :: b :: c :: d :: e :: f :: r) = V at *
        by_cases w0 : w = "do"
        · subst w0; (simp [d_is_seen, b_is_seen, t2, isTy, i0, i1, i2, i3, i4, hlen, l0, l4, m4, m4b, m5, m5b, cV, hw, isin2, -PyD.is_non, Bool.or_false, Bool.and_false]; try exact fin_0 rfl)
        have w0 : (w == "do") = false := by simpa using w0
        by_cases w1 : w = "call"
        · subst w1; (simp [d_is_seen, b_is_seen, t2, isTy, i0, i1, i2, i3, i4, hlen, l0, l4, m4, m4b, m5, m5b, cV, w0, hw, isin2, -PyD.is_non, Bool.or_false, Bool.and_false]; try exact fin_0 rfl)
        have w1 : (w == "call") = false := by simpa using w1
        by_cases w2 : w = "pass"
        · subst w2; (simp [d_is_seen, b_is_seen, t2, isTy, i0, i1, i2, i3, i4, hlen, l0, l4, m4, m4b, m5, m5b, cV, w0, w1, hw, isin2, -PyD.is_non, Bool.or_false, Bool.and_false]; try exact fin_0 rfl)
        have w2 : (w == "pass") = false := by simpa using w2
        (simp [d_is_seen, b_is_seen, t2, isTy, i0, i1, i2, i3, i4, hlen, l0, l4, m4, m4b, m5, m5b, cV, w0, w1, w2, hw, isin2, -PyD.is_non, Bool.or_false, Bool.and_false]; try exact fin_0 rfl)
  | _ =>
    simp only [isT] at t2
    (simp [d_is_seen, b_is_seen, t2, seenB, hw, isin2, -PyD.is_non, Bool.or_false, Bool.and_false]; try exact fin_0 rfl)
theorem c_seen {k : Nat} (hk : 4 ≤ k) (v : D) (hc : closed v = true) (hs : smD v = true) (hd : depD v ≤ 50) (h : AH) : callC (tabF L fuel k 7) [v] h = some (.bl (seenB v), h) := callV (by simp [hc, closeds, closed]) (seen_run hk v hc hs hd) rfl
theorem mark_run {k : Nat} (hk : 4 ≤ k) (v : D) (hc : closed v = true) (hs : smD v = true) : tabF L fuel k 12 [v] [] = some (.bl (numsN v 2), []) := by
  obtain ⟨k, rfl⟩ : ∃ m, k = m + 1 := ⟨k - 1, by omega⟩
  have c := fun h => c_nums (fuel := fuel) (k := k) (by omega) v hc hs 2 h
  rw [tab_step (d := d_is_mark) rfl]
  (simp [d_is_mark, b_is_mark, c]; try exact fin_0 rfl)
theorem c_mark {k : Nat} (hk : 4 ≤ k) (v : D) (hc : closed v = true) (hs : smD v = true) (h : AH) : callC (tabF L fuel k 12) [v] h = some (.bl (numsN v 2), h) := callV (by simp [hc, closeds, closed]) (mark_run hk v hc hs) rfl
theorem cour_run {k : Nat} (hk : 4 ≤ k) (mn : Int) (v : D) (hc : closed v = true) (hs : smD v = true) (hd : depD v ≤ 50) (hv : ∃ w r, v = .tup (.str w :: r)) : tabF L fuel k 9 [.int mn, v] [] = some (.bl (courB mn v), []) := by
  obtain ⟨k, rfl⟩ : ∃ m, k = m + 1 := ⟨k - 1, by omega⟩
  have t2 := fun h => c_istup (fuel := fuel) (k := k) (by omega) v hc h
  rw [tab_step (d := d_is_course_body) rfl]
  cases v with
  | ref n => simp [closed] at hc
  | fn n => simp [closed] at hc
  | tup ds =>
    simp only [isT] at t2
    obtain ⟨w, r, hv⟩ := hv
    rw [D.tup.injEq] at hv
    subst hv
    match r, hc, hs, hd with
      | [], hc, hs, hd =>
        have i0 : ∀ H, index (.tup [.str w]) (.int 0) H = some (.str w) := fun H => ixs (n := 0) rfl H
        have hlen : ∀ H, bltf .len [.tup [.str w]] H = some (.int 1) := fun _ => rfl
        have hsp : courB mn (.tup [.str w]) = false := rfl
        rw [hsp]; clear hsp
        generalize D.tup [.str w] = V at *
        by_cases w0 : w = "change"
        · subst w0; (simp [d_is_course_body, b_is_course_body, t2, isTy, i0, hlen, hw, isin2, -PyD.is_non, Bool.or_false, Bool.and_false]; try exact fin_0 rfl)
        have w0 : (w == "change") = false := by simpa using w0
        (simp [d_is_course_body, b_is_course_body, t2, isTy, i0, hlen, w0, hw, isin2, -PyD.is_non, Bool.or_false, Bool.and_false]; try exact fin_0 rfl)
      | [a], hc, hs, hd =>
        have ca : closed a = true := cl_at hc (by simp)
        have sa : smD a = true := smD_at hs (by simp)
        have da : depD a ≤ 50 := dep_at hd (by simp)
        have i0 : ∀ H, index (.tup [.str w, a]) (.int 0) H = some (.str w) := fun H => ixs (n := 0) rfl H
        have i1 : ∀ H, index (.tup [.str w, a]) (.int 1) H = some a := fun H => ixs (n := 1) rfl H
        have hlen : ∀ H, bltf .len [.tup [.str w, a]] H = some (.int 2) := fun _ => rfl
        have hsp : courB mn (.tup [.str w, a]) = false := rfl
        rw [hsp]; clear hsp
        generalize D.tup [.str w, a] = V at *
        by_cases w0 : w = "change"
        · subst w0; (simp [d_is_course_body, b_is_course_body, t2, isTy, i0, i1, hlen, hw, isin2, -PyD.is_non, Bool.or_false, Bool.and_false]; try exact fin_0 rfl)
        have w0 : (w == "change") = false := by simpa using w0
        (simp [d_is_course_body, b_is_course_body, t2, isTy, i0, i1, hlen, w0, hw, isin2, -PyD.is_non, Bool.or_false, Bool.and_false]; try exact fin_0 rfl)
      | [a, b], hc, hs, hd =>
        have ca : closed a = true := cl_at hc (by simp)
        have sa : smD a = true := smD_at hs (by simp)
        have da : depD a ≤ 50 := dep_at hd (by simp)
        have cb : closed b = true := cl_at hc (by simp)
        have sb : smD b = true := smD_at hs (by simp)
        have db : depD b ≤ 50 := dep_at hd (by simp)
        have i0 : ∀ H, index (.tup [.str w, a, b]) (.int 0) H = some (.str w) := fun H => ixs (n := 0) rfl H
        have i1 : ∀ H, index (.tup [.str w, a, b]) (.int 1) H = some a := fun H => ixs (n := 1) rfl H
        have i2 : ∀ H, index (.tup [.str w, a, b]) (.int 2) H = some b := fun H => ixs (n := 2) rfl H
        have hlen : ∀ H, bltf .len [.tup [.str w, a, b]] H = some (.int 3) := fun _ => rfl
        have hsp : courB mn (.tup [.str w, a, b]) = false := rfl
        rw [hsp]; clear hsp
        generalize D.tup [.str w, a, b] = V at *
        by_cases w0 : w = "change"
        · subst w0; (simp [d_is_course_body, b_is_course_body, t2, isTy, i0, i1, i2, hlen, hw, isin2, -PyD.is_non, Bool.or_false, Bool.and_false]; try exact fin_0 rfl)
        have w0 : (w == "change") = false := by simpa using w0
        (simp [d_is_course_body, b_is_course_body, t2, isTy, i0, i1, i2, hlen, w0, hw, isin2, -PyD.is_non, Bool.or_false, Bool.and_false]; try exact fin_0 rfl)
      | [a, b, c], hc, hs, hd =>
        have ca : closed a = true := cl_at hc (by simp)
        have sa : smD a = true := smD_at hs (by simp)
        have da : depD a ≤ 50 := dep_at hd (by simp)
        have cb : closed b = true := cl_at hc (by simp)
        have sb : smD b = true := smD_at hs (by simp)
        have db : depD b ≤ 50 := dep_at hd (by simp)
        have cc : closed c = true := cl_at hc (by simp)
        have sc : smD c = true := smD_at hs (by simp)
        have dc : depD c ≤ 50 := dep_at hd (by simp)
        have i0 : ∀ H, index (.tup [.str w, a, b, c]) (.int 0) H = some (.str w) := fun H => ixs (n := 0) rfl H
        have i1 : ∀ H, index (.tup [.str w, a, b, c]) (.int 1) H = some a := fun H => ixs (n := 1) rfl H
        have i2 : ∀ H, index (.tup [.str w, a, b, c]) (.int 2) H = some b := fun H => ixs (n := 2) rfl H
        have i3 : ∀ H, index (.tup [.str w, a, b, c]) (.int 3) H = some c := fun H => ixs (n := 3) rfl H
        have hlen : ∀ H, bltf .len [.tup [.str w, a, b, c]] H = some (.int 4) := fun _ => rfl
        have hsp : courB mn (.tup [.str w, a, b, c]) = false := rfl
        rw [hsp]; clear hsp
        generalize D.tup [.str w, a, b, c] = V at *
        by_cases w0 : w = "change"
        · subst w0; (simp [d_is_course_body, b_is_course_body, t2, isTy, i0, i1, i2, i3, hlen, hw, isin2, -PyD.is_non, Bool.or_false, Bool.and_false]; try exact fin_0 rfl)
        have w0 : (w == "change") = false := by simpa using w0
        (simp [d_is_course_body, b_is_course_body, t2, isTy, i0, i1, i2, i3, hlen, w0, hw, isin2, -PyD.is_non, Bool.or_false, Bool.and_false]; try exact fin_0 rfl)
      | [a, b, c, d], hc, hs, hd =>
        have ca : closed a = true := cl_at hc (by simp)
        have sa : smD a = true := smD_at hs (by simp)
        have da : depD a ≤ 50 := dep_at hd (by simp)
        have cb : closed b = true := cl_at hc (by simp)
        have sb : smD b = true := smD_at hs (by simp)
        have db : depD b ≤ 50 := dep_at hd (by simp)
        have cc : closed c = true := cl_at hc (by simp)
        have sc : smD c = true := smD_at hs (by simp)
        have dc : depD c ≤ 50 := dep_at hd (by simp)
        have cd : closed d = true := cl_at hc (by simp)
        have sd : smD d = true := smD_at hs (by simp)
        have dd : depD d ≤ 50 := dep_at hd (by simp)
        have nma : ∀ h, callC (tabF L fuel k 1) [a, .int 0, .int (mn - 1)] h = some (.bl (numB a 0 (some (mn - 1))), h) := fun h => c_num (fuel := fuel) (k := k) (by omega) a ca 0 (mn - 1) h
        have n0b : ∀ h, callC (tabF L fuel k 1) [b, .int 0, .non] h = some (.bl (numB b 0 none), h) := fun h => c_num0 (fuel := fuel) (k := k) (by omega) b cb 0 h
        have isd : ∀ h, isTyH d .str h = some (isS d) := fun h => isty_s cd h
        have nid : isS d = true → ∀ h, cmpop .notin d (.tup [.str "done", .str "void"]) h = some (!wordD d) := fun z h => notin_w z h
        have i0 : ∀ H, index (.tup [.str w, a, b, c, d]) (.int 0) H = some (.str w) := fun H => ixs (n := 0) rfl H
        have i1 : ∀ H, index (.tup [.str w, a, b, c, d]) (.int 1) H = some a := fun H => ixs (n := 1) rfl H
        have i2 : ∀ H, index (.tup [.str w, a, b, c, d]) (.int 2) H = some b := fun H => ixs (n := 2) rfl H
        have i3 : ∀ H, index (.tup [.str w, a, b, c, d]) (.int 3) H = some c := fun H => ixs (n := 3) rfl H
        have i4 : ∀ H, index (.tup [.str w, a, b, c, d]) (.int 4) H = some d := fun H => ixs (n := 4) rfl H
        have hlen : ∀ H, bltf .len [.tup [.str w, a, b, c, d]] H = some (.int 5) := fun _ => rfl
        have hsp : courB mn (.tup [.str w, a, b, c, d]) = (numB a 0 (some (mn - 1)) && numB b 0 none && isS d && wordD d && hw (.str w) "change") := rfl
        rw [hsp]; clear hsp
        generalize D.tup [.str w, a, b, c, d] = V at *
        generalize numB a 0 (some (mn - 1)) = B0 at *
        generalize numB b 0 none = B1 at *
        generalize isS d = B2 at *
        generalize wordD d = B3 at *
        by_cases w0 : w = "change"
        · subst w0; cases B0 <;> cases B1 <;> cases B2 <;> cases B3 <;> (simp [d_is_course_body, b_is_course_body, t2, isTy, nma, n0b, isd, nid, i0, i1, i2, i3, i4, hlen, hw, isin2, -PyD.is_non, Bool.or_false, Bool.and_false]; try exact fin_0 rfl)
        have w0 : (w == "change") = false := by simpa using w0
        cases B0 <;> cases B1 <;> cases B2 <;> cases B3 <;> (simp [d_is_course_body, b_is_course_body, t2, isTy, nma, n0b, isd, nid, i0, i1, i2, i3, i4, hlen, w0, hw, isin2, -PyD.is_non, Bool.or_false, Bool.and_false]; try exact fin_0 rfl)
      | [a, b, c, d, e], hc, hs, hd =>
        have ca : closed a = true := cl_at hc (by simp)
        have sa : smD a = true := smD_at hs (by simp)
        have da : depD a ≤ 50 := dep_at hd (by simp)
        have cb : closed b = true := cl_at hc (by simp)
        have sb : smD b = true := smD_at hs (by simp)
        have db : depD b ≤ 50 := dep_at hd (by simp)
        have cc : closed c = true := cl_at hc (by simp)
        have sc : smD c = true := smD_at hs (by simp)
        have dc : depD c ≤ 50 := dep_at hd (by simp)
        have cd : closed d = true := cl_at hc (by simp)
        have sd : smD d = true := smD_at hs (by simp)
        have dd : depD d ≤ 50 := dep_at hd (by simp)
        have ce : closed e = true := cl_at hc (by simp)
        have se : smD e = true := smD_at hs (by simp)
        have de : depD e ≤ 50 := dep_at hd (by simp)
        have nma : ∀ h, callC (tabF L fuel k 1) [a, .int 0, .int (mn - 1)] h = some (.bl (numB a 0 (some (mn - 1))), h) := fun h => c_num (fuel := fuel) (k := k) (by omega) a ca 0 (mn - 1) h
        have n0b : ∀ h, callC (tabF L fuel k 1) [b, .int 0, .non] h = some (.bl (numB b 0 none), h) := fun h => c_num0 (fuel := fuel) (k := k) (by omega) b cb 0 h
        have isd : ∀ h, isTyH d .str h = some (isS d) := fun h => isty_s cd h
        have nid : isS d = true → ∀ h, cmpop .notin d (.tup [.str "done", .str "void"]) h = some (!wordD d) := fun z h => notin_w z h
        have n0c : ∀ h, callC (tabF L fuel k 1) [c, .int 0, .non] h = some (.bl (numB c 0 none), h) := fun h => c_num0 (fuel := fuel) (k := k) (by omega) c cc 0 h
        have ite : ∀ h, callC (tabF L fuel k 2) [e, .non] h = some (.bl (isT e), h) := fun h => c_istup (fuel := fuel) (k := k) (by omega) e ce h
        have lne : isT e = true → ∀ H, bltf .len [e] H = some (.int (lenD e)) := fun z H => len_isT z H
        have nse : ∀ h, callC (tabF L fuel k 3) [e, .int (lenD e), .int 0, .non] h = some (.bl (numsT e), h) := fun h => c_numsT (fuel := fuel) (k := k) (by omega) e ce se h
        have i0 : ∀ H, index (.tup [.str w, a, b, c, d, e]) (.int 0) H = some (.str w) := fun H => ixs (n := 0) rfl H
        have i1 : ∀ H, index (.tup [.str w, a, b, c, d, e]) (.int 1) H = some a := fun H => ixs (n := 1) rfl H
        have i2 : ∀ H, index (.tup [.str w, a, b, c, d, e]) (.int 2) H = some b := fun H => ixs (n := 2) rfl H
        have i3 : ∀ H, index (.tup [.str w, a, b, c, d, e]) (.int 3) H = some c := fun H => ixs (n := 3) rfl H
        have i4 : ∀ H, index (.tup [.str w, a, b, c, d, e]) (.int 4) H = some d := fun H => ixs (n := 4) rfl H
        have i5 : ∀ H, index (.tup [.str w, a, b, c, d, e]) (.int 5) H = some e := fun H => ixs (n := 5) rfl H
        have hlen : ∀ H, bltf .len [.tup [.str w, a, b, c, d, e]] H = some (.int 6) := fun _ => rfl
        have hsp : courB mn (.tup [.str w, a, b, c, d, e]) = (numB a 0 (some (mn - 1)) && numB b 0 none && isS d && wordD d && !hw (.str w) "change" && numB c 0 none && isT e && numsT e) := rfl
        rw [hsp]; clear hsp
        generalize D.tup [.str w, a, b, c, d, e] = V at *
        generalize numB a 0 (some (mn - 1)) = B0 at *
        generalize numB b 0 none = B1 at *
        generalize isS d = B2 at *
        generalize wordD d = B3 at *
        generalize numB c 0 none = B4 at *
        generalize isT e = B5 at *
        generalize numsT e = B6 at *
        by_cases w0 : w = "change"
        · subst w0; cases B0 <;> cases B1 <;> cases B2 <;> cases B3 <;> cases B4 <;> cases B5 <;> cases B6 <;> (simp [d_is_course_body, b_is_course_body, t2, isTy, nma, n0b, isd, nid, n0c, ite, lne, nse, i0, i1, i2, i3, i4, i5, hlen, hw, isin2, -PyD.is_non, Bool.or_false, Bool.and_false]; try exact fin_0 rfl)
        have w0 : (w == "change") = false := by simpa using w0
        cases B0 <;> cases B1 <;> cases B2 <;> cases B3 <;> cases B4 <;> cases B5 <;> cases B6 <;> (simp [d_is_course_body, b_is_course_body, t2, isTy, nma, n0b, isd, nid, n0c, ite, lne, nse, i0, i1, i2, i3, i4, i5, hlen, w0, hw, isin2, -PyD.is_non, Bool.or_false, Bool.and_false]; try exact fin_0 rfl)
      | a :: b :: c :: d :: e :: f :: r, hc, hs, hd =>
        have ca : closed a = true := cl_at hc (by simp)
        have sa : smD a = true := smD_at hs (by simp)
        have da : depD a ≤ 50 := dep_at hd (by simp)
        have cb : closed b = true := cl_at hc (by simp)
        have sb : smD b = true := smD_at hs (by simp)
        have db : depD b ≤ 50 := dep_at hd (by simp)
        have cc : closed c = true := cl_at hc (by simp)
        have sc : smD c = true := smD_at hs (by simp)
        have dc : depD c ≤ 50 := dep_at hd (by simp)
        have cd : closed d = true := cl_at hc (by simp)
        have sd : smD d = true := smD_at hs (by simp)
        have dd : depD d ≤ 50 := dep_at hd (by simp)
        have ce : closed e = true := cl_at hc (by simp)
        have se : smD e = true := smD_at hs (by simp)
        have de : depD e ≤ 50 := dep_at hd (by simp)
        have nma : ∀ h, callC (tabF L fuel k 1) [a, .int 0, .int (mn - 1)] h = some (.bl (numB a 0 (some (mn - 1))), h) := fun h => c_num (fuel := fuel) (k := k) (by omega) a ca 0 (mn - 1) h
        have n0b : ∀ h, callC (tabF L fuel k 1) [b, .int 0, .non] h = some (.bl (numB b 0 none), h) := fun h => c_num0 (fuel := fuel) (k := k) (by omega) b cb 0 h
        have isd : ∀ h, isTyH d .str h = some (isS d) := fun h => isty_s cd h
        have nid : isS d = true → ∀ h, cmpop .notin d (.tup [.str "done", .str "void"]) h = some (!wordD d) := fun z h => notin_w z h
        have i0 : ∀ H, index (.tup (.str w :: a :: b :: c :: d :: e :: f :: r)) (.int 0) H = some (.str w) := fun H => ixs (n := 0) rfl H
        have i1 : ∀ H, index (.tup (.str w :: a :: b :: c :: d :: e :: f :: r)) (.int 1) H = some a := fun H => ixs (n := 1) rfl H
        have i2 : ∀ H, index (.tup (.str w :: a :: b :: c :: d :: e :: f :: r)) (.int 2) H = some b := fun H => ixs (n := 2) rfl H
        have i3 : ∀ H, index (.tup (.str w :: a :: b :: c :: d :: e :: f :: r)) (.int 3) H = some c := fun H => ixs (n := 3) rfl H
        have i4 : ∀ H, index (.tup (.str w :: a :: b :: c :: d :: e :: f :: r)) (.int 4) H = some d := fun H => ixs (n := 4) rfl H
        have hlen : ∀ H, bltf .len [.tup (.str w :: a :: b :: c :: d :: e :: f :: r)] H = some (.int ((r.length : Nat) + 7 : Int)) := fun H => by rw [len_tup]; simp; omega
        have l5 : (((r.length : Nat) : Int) + 7 == 5) = false := by rw [beq_eq_false_iff_ne]; omega
        have l6 : (((r.length : Nat) : Int) + 7 == 6) = false := by rw [beq_eq_false_iff_ne]; omega
        have m4 : decide (((r.length : Nat) : Int) + 7 < 4) = false := by simp; omega
        have m4b : ¬ (((r.length : Nat) : Int) + 7 < 4) := by omega
        have m5 : decide (((r.length : Nat) : Int) + 7 < 5) = false := by simp; omega
        have m5b : ¬ (((r.length : Nat) : Int) + 7 < 5) := by omega
        rw [courB_7]
        generalize ((r.length : Nat) : Int) = LN at *
        generalize D.tup (.str w :: a :: b :: c :: d :: e :: f :: r) = V at *
        generalize numB a 0 (some (mn - 1)) = B0 at *
        generalize numB b 0 none = B1 at *
        generalize isS d = B2 at *
        generalize wordD d = B3 at *
        by_cases w0 : w = "change"
        · subst w0; cases B0 <;> cases B1 <;> cases B2 <;> cases B3 <;> (simp [d_is_course_body, b_is_course_body, t2, isTy, nma, n0b, isd, nid, i0, i1, i2, i3, i4, hlen, l5, l6, m4, m4b, m5, m5b, hw, isin2, -PyD.is_non, Bool.or_false, Bool.and_false]; try exact fin_0 rfl)
        have w0 : (w == "change") = false := by simpa using w0
        cases B0 <;> cases B1 <;> cases B2 <;> cases B3 <;> (simp [d_is_course_body, b_is_course_body, t2, isTy, nma, n0b, isd, nid, i0, i1, i2, i3, i4, hlen, l5, l6, m4, m4b, m5, m5b, w0, hw, isin2, -PyD.is_non, Bool.or_false, Bool.and_false]; try exact fin_0 rfl)
  | _ => obtain ⟨w, r, hv⟩ := hv; simp at hv
theorem c_cour {k : Nat} (hk : 4 ≤ k) (mn : Int) (v : D) (hc : closed v = true) (hs : smD v = true) (hd : depD v ≤ 50) (hv : ∃ w r, v = .tup (.str w :: r)) (h : AH) : callC (tabF L fuel k 9) [.int mn, v] h = some (.bl (courB mn v), h) := callV (by simp [hc, closeds, closed]) (cour_run hk mn v hc hs hd hv) rfl
theorem body_run {k : Nat} (hk : 5 ≤ k) (mn : Int) (v : D) (hc : closed v = true) (hs : smD v = true) (hd : depD v ≤ 50) : tabF L fuel k 8 [.int mn, v] [] = some (.bl (bodyB mn v), []) := by
  obtain ⟨k, rfl⟩ : ∃ m, k = m + 1 := ⟨k - 1, by omega⟩
  have t2 := fun h => c_istup (fuel := fuel) (k := k) (by omega) v hc h
  rw [tab_step (d := d_is_body) rfl]
  cases v with
  | ref n => simp [closed] at hc
  | fn n => simp [closed] at hc
  | tup ds =>
    simp only [isT] at t2
    match ds, hc, hs, hd with
    | [], hc, hs, hd => (simp [d_is_body, b_is_body, t2, bodyB_nil, hw, isin2, -PyD.is_non, Bool.or_false, Bool.and_false]; try exact fin_0 rfl)
    | x :: r, hc, hs, hd =>
      have cx : closed x = true := cl_at hc (by simp)
      by_cases hx : ∃ w, x = .str w
      case neg =>
        have hx : ∀ w, x ≠ .str w := fun w z => hx ⟨w, z⟩
        rw [bodyB_head hx]
        have hlen : ∀ H, bltf .len [.tup (x :: r)] H = some (.int ((r.length : Nat) + 1 : Int)) := fun H => by rw [len_tup]; simp
        have l0 : (((r.length : Nat) : Int) + 1 == 0) = false := by rw [beq_eq_false_iff_ne]; omega
        have i0 : ∀ H, index (.tup (x :: r)) (.int 0) H = some x := fun H => ixs (n := 0) rfl H
        have hst := notstr cx hx
        generalize D.tup (x :: r) = V at *
        (simp [d_is_body, b_is_body, t2, hlen, l0, i0, hst, hw, isin2, -PyD.is_non, Bool.or_false, Bool.and_false]; try exact fin_0 rfl)
      obtain ⟨w, rfl⟩ := hx
      match r, hc, hs, hd with
      | [], hc, hs, hd =>
        have i0 : ∀ H, index (.tup [.str w]) (.int 0) H = some (.str w) := fun H => ixs (n := 0) rfl H
        have hlen : ∀ H, bltf .len [.tup [.str w]] H = some (.int 1) := fun _ => rfl
        have co : ∀ h, callC (tabF L fuel k 9) [.int mn, .tup [.str w]] h = some (.bl false, h) := fun h => c_cour (fuel := fuel) (k := k) (by omega) mn _ hc hs hd ⟨_, _, rfl⟩ h
        have dw : ∀ H, cmpop .eq (.tup [.str w]) (.tup [.str "dawn"]) H = some (w == "dawn") := fun H => by rw [eq_dawn hc hd]; simp [eqD, eqDs, beqD]
        have hsp : bodyB mn (.tup [.str w]) = (hw (.str w) "dawn") := rfl
        rw [hsp]; clear hsp
        generalize D.tup [.str w] = V at *
        by_cases w0 : w = "done"
        · subst w0; (simp [d_is_body, b_is_body, t2, isTy, i0, hlen, co, dw, hw, isin2, -PyD.is_non, Bool.or_false, Bool.and_false]; try exact fin_0 rfl)
        have w0 : (w == "done") = false := by simpa using w0
        by_cases w1 : w = "void"
        · subst w1; (simp [d_is_body, b_is_body, t2, isTy, i0, hlen, co, dw, w0, hw, isin2, -PyD.is_non, Bool.or_false, Bool.and_false]; try exact fin_0 rfl)
        have w1 : (w == "void") = false := by simpa using w1
        by_cases w2 : w = "silent"
        · subst w2; (simp [d_is_body, b_is_body, t2, isTy, i0, hlen, co, dw, w0, w1, hw, isin2, -PyD.is_non, Bool.or_false, Bool.and_false]; try exact fin_0 rfl)
        have w2 : (w == "silent") = false := by simpa using w2
        by_cases w3 : w = "change"
        · subst w3; (simp [d_is_body, b_is_body, t2, isTy, i0, hlen, co, dw, w0, w1, w2, hw, isin2, -PyD.is_non, Bool.or_false, Bool.and_false]; try exact fin_0 rfl)
        have w3 : (w == "change") = false := by simpa using w3
        by_cases w4 : w = "back"
        · subst w4; (simp [d_is_body, b_is_body, t2, isTy, i0, hlen, co, dw, w0, w1, w2, w3, hw, isin2, -PyD.is_non, Bool.or_false, Bool.and_false]; try exact fin_0 rfl)
        have w4 : (w == "back") = false := by simpa using w4
        (simp [d_is_body, b_is_body, t2, isTy, i0, hlen, co, dw, w0, w1, w2, w3, w4, hw, isin2, -PyD.is_non, Bool.or_false, Bool.and_false]; try exact fin_0 rfl)
      | [a], hc, hs, hd =>
        have ca : closed a = true := cl_at hc (by simp)
        have sa : smD a = true := smD_at hs (by simp)
        have da : depD a ≤ 50 := dep_at hd (by simp)
        have cha : ∀ h, callC (tabF L fuel k 6) [a] h = some (.bl (choB a), h) := fun h => c_choice (fuel := fuel) (k := k) (by omega) a ca h
        have hha : choB a = true → ∀ H, index a (.int 0) H = some (hd0 a) := fun z H => cho_hd z H
        have hpa : choB a = true → ∀ H, cmpop .eq (hd0 a) (.str "pass") H = some (hw (hd0 a) "pass") := fun z H => cho_hp z H
        have i0 : ∀ H, index (.tup [.str w, a]) (.int 0) H = some (.str w) := fun H => ixs (n := 0) rfl H
        have i1 : ∀ H, index (.tup [.str w, a]) (.int 1) H = some a := fun H => ixs (n := 1) rfl H
        have hlen : ∀ H, bltf .len [.tup [.str w, a]] H = some (.int 2) := fun _ => rfl
        have co : ∀ h, callC (tabF L fuel k 9) [.int mn, .tup [.str w, a]] h = some (.bl false, h) := fun h => c_cour (fuel := fuel) (k := k) (by omega) mn _ hc hs hd ⟨_, _, rfl⟩ h
        have dw : ∀ H, cmpop .eq (.tup [.str w, a]) (.tup [.str "dawn"]) H = some false := fun H => by rw [eq_dawn hc hd]; simp [eqD, eqDs, beqD]
        have hsp : bodyB mn (.tup [.str w, a]) = (hw (.str w) "silent" && choB a && hw (hd0 a) "pass") := rfl
        rw [hsp]; clear hsp
        generalize D.tup [.str w, a] = V at *
        generalize choB a = B0 at *
        generalize hw (hd0 a) "pass" = B1 at *
        by_cases w0 : w = "done"
        · subst w0; cases B0 <;> cases B1 <;> (simp [d_is_body, b_is_body, t2, isTy, cha, hha, hpa, i0, i1, hlen, co, dw, hw, isin2, -PyD.is_non, Bool.or_false, Bool.and_false]; try exact fin_0 rfl)
        have w0 : (w == "done") = false := by simpa using w0
        by_cases w1 : w = "void"
        · subst w1; cases B0 <;> cases B1 <;> (simp [d_is_body, b_is_body, t2, isTy, cha, hha, hpa, i0, i1, hlen, co, dw, w0, hw, isin2, -PyD.is_non, Bool.or_false, Bool.and_false]; try exact fin_0 rfl)
        have w1 : (w == "void") = false := by simpa using w1
        by_cases w2 : w = "silent"
        · subst w2; cases B0 <;> cases B1 <;> (simp [d_is_body, b_is_body, t2, isTy, cha, hha, hpa, i0, i1, hlen, co, dw, w0, w1, hw, isin2, -PyD.is_non, Bool.or_false, Bool.and_false]; try exact fin_0 rfl)
        have w2 : (w == "silent") = false := by simpa using w2
        by_cases w3 : w = "change"
        · subst w3; cases B0 <;> cases B1 <;> (simp [d_is_body, b_is_body, t2, isTy, cha, hha, hpa, i0, i1, hlen, co, dw, w0, w1, w2, hw, isin2, -PyD.is_non, Bool.or_false, Bool.and_false]; try exact fin_0 rfl)
        have w3 : (w == "change") = false := by simpa using w3
        by_cases w4 : w = "back"
        · subst w4; cases B0 <;> cases B1 <;> (simp [d_is_body, b_is_body, t2, isTy, cha, hha, hpa, i0, i1, hlen, co, dw, w0, w1, w2, w3, hw, isin2, -PyD.is_non, Bool.or_false, Bool.and_false]; try exact fin_0 rfl)
        have w4 : (w == "back") = false := by simpa using w4
        cases B0 <;> cases B1 <;> (simp [d_is_body, b_is_body, t2, isTy, cha, hha, hpa, i0, i1, hlen, co, dw, w0, w1, w2, w3, w4, hw, isin2, -PyD.is_non, Bool.or_false, Bool.and_false]; try exact fin_0 rfl)
      | [a, b], hc, hs, hd =>
        have ca : closed a = true := cl_at hc (by simp)
        have sa : smD a = true := smD_at hs (by simp)
        have da : depD a ≤ 50 := dep_at hd (by simp)
        have cb : closed b = true := cl_at hc (by simp)
        have sb : smD b = true := smD_at hs (by simp)
        have db : depD b ≤ 50 := dep_at hd (by simp)
        have nma : ∀ h, callC (tabF L fuel k 1) [a, .int 0, .int (mn - 1)] h = some (.bl (numB a 0 (some (mn - 1))), h) := fun h => c_num (fuel := fuel) (k := k) (by omega) a ca 0 (mn - 1) h
        have n0b : ∀ h, callC (tabF L fuel k 1) [b, .int 0, .non] h = some (.bl (numB b 0 none), h) := fun h => c_num0 (fuel := fuel) (k := k) (by omega) b cb 0 h
        have i0 : ∀ H, index (.tup [.str w, a, b]) (.int 0) H = some (.str w) := fun H => ixs (n := 0) rfl H
        have i1 : ∀ H, index (.tup [.str w, a, b]) (.int 1) H = some a := fun H => ixs (n := 1) rfl H
        have i2 : ∀ H, index (.tup [.str w, a, b]) (.int 2) H = some b := fun H => ixs (n := 2) rfl H
        have hlen : ∀ H, bltf .len [.tup [.str w, a, b]] H = some (.int 3) := fun _ => rfl
        have co : ∀ h, callC (tabF L fuel k 9) [.int mn, .tup [.str w, a, b]] h = some (.bl false, h) := fun h => c_cour (fuel := fuel) (k := k) (by omega) mn _ hc hs hd ⟨_, _, rfl⟩ h
        have dw : ∀ H, cmpop .eq (.tup [.str w, a, b]) (.tup [.str "dawn"]) H = some false := fun H => by rw [eq_dawn hc hd]; simp [eqD, eqDs, beqD]
        have hsp : bodyB mn (.tup [.str w, a, b]) = (hw (.str w) "void" && numB a 0 (some (mn - 1)) && numB b 0 none) := rfl
        rw [hsp]; clear hsp
        generalize D.tup [.str w, a, b] = V at *
        generalize numB a 0 (some (mn - 1)) = B0 at *
        generalize numB b 0 none = B1 at *
        by_cases w0 : w = "done"
        · subst w0; cases B0 <;> cases B1 <;> (simp [d_is_body, b_is_body, t2, isTy, nma, n0b, i0, i1, i2, hlen, co, dw, hw, isin2, -PyD.is_non, Bool.or_false, Bool.and_false]; try exact fin_0 rfl)
        have w0 : (w == "done") = false := by simpa using w0
        by_cases w1 : w = "void"
        · subst w1; cases B0 <;> cases B1 <;> (simp [d_is_body, b_is_body, t2, isTy, nma, n0b, i0, i1, i2, hlen, co, dw, w0, hw, isin2, -PyD.is_non, Bool.or_false, Bool.and_false]; try exact fin_0 rfl)
        have w1 : (w == "void") = false := by simpa using w1
        by_cases w2 : w = "silent"
        · subst w2; cases B0 <;> cases B1 <;> (simp [d_is_body, b_is_body, t2, isTy, nma, n0b, i0, i1, i2, hlen, co, dw, w0, w1, hw, isin2, -PyD.is_non, Bool.or_false, Bool.and_false]; try exact fin_0 rfl)
        have w2 : (w == "silent") = false := by simpa using w2
        by_cases w3 : w = "change"
        · subst w3; cases B0 <;> cases B1 <;> (simp [d_is_body, b_is_body, t2, isTy, nma, n0b, i0, i1, i2, hlen, co, dw, w0, w1, w2, hw, isin2, -PyD.is_non, Bool.or_false, Bool.and_false]; try exact fin_0 rfl)
        have w3 : (w == "change") = false := by simpa using w3
        by_cases w4 : w = "back"
        · subst w4; cases B0 <;> cases B1 <;> (simp [d_is_body, b_is_body, t2, isTy, nma, n0b, i0, i1, i2, hlen, co, dw, w0, w1, w2, w3, hw, isin2, -PyD.is_non, Bool.or_false, Bool.and_false]; try exact fin_0 rfl)
        have w4 : (w == "back") = false := by simpa using w4
        cases B0 <;> cases B1 <;> (simp [d_is_body, b_is_body, t2, isTy, nma, n0b, i0, i1, i2, hlen, co, dw, w0, w1, w2, w3, w4, hw, isin2, -PyD.is_non, Bool.or_false, Bool.and_false]; try exact fin_0 rfl)
      | [a, b, c], hc, hs, hd =>
        have ca : closed a = true := cl_at hc (by simp)
        have sa : smD a = true := smD_at hs (by simp)
        have da : depD a ≤ 50 := dep_at hd (by simp)
        have cb : closed b = true := cl_at hc (by simp)
        have sb : smD b = true := smD_at hs (by simp)
        have db : depD b ≤ 50 := dep_at hd (by simp)
        have cc : closed c = true := cl_at hc (by simp)
        have sc : smD c = true := smD_at hs (by simp)
        have dc : depD c ≤ 50 := dep_at hd (by simp)
        have nma : ∀ h, callC (tabF L fuel k 1) [a, .int 0, .int (mn - 1)] h = some (.bl (numB a 0 (some (mn - 1))), h) := fun h => c_num (fuel := fuel) (k := k) (by omega) a ca 0 (mn - 1) h
        have n0b : ∀ h, callC (tabF L fuel k 1) [b, .int 0, .non] h = some (.bl (numB b 0 none), h) := fun h => c_num0 (fuel := fuel) (k := k) (by omega) b cb 0 h
        have sec : ∀ h, callC (tabF L fuel k 7) [c] h = some (.bl (seenB c), h) := fun h => c_seen (fuel := fuel) (k := k) (by omega) c cc sc dc h
        have i0 : ∀ H, index (.tup [.str w, a, b, c]) (.int 0) H = some (.str w) := fun H => ixs (n := 0) rfl H
        have i1 : ∀ H, index (.tup [.str w, a, b, c]) (.int 1) H = some a := fun H => ixs (n := 1) rfl H
        have i2 : ∀ H, index (.tup [.str w, a, b, c]) (.int 2) H = some b := fun H => ixs (n := 2) rfl H
        have i3 : ∀ H, index (.tup [.str w, a, b, c]) (.int 3) H = some c := fun H => ixs (n := 3) rfl H
        have hlen : ∀ H, bltf .len [.tup [.str w, a, b, c]] H = some (.int 4) := fun _ => rfl
        have co : ∀ h, callC (tabF L fuel k 9) [.int mn, .tup [.str w, a, b, c]] h = some (.bl false, h) := fun h => c_cour (fuel := fuel) (k := k) (by omega) mn _ hc hs hd ⟨_, _, rfl⟩ h
        have dw : ∀ H, cmpop .eq (.tup [.str w, a, b, c]) (.tup [.str "dawn"]) H = some false := fun H => by rw [eq_dawn hc hd]; simp [eqD, eqDs, beqD]
        have hsp : bodyB mn (.tup [.str w, a, b, c]) = (hw (.str w) "done" && numB a 0 (some (mn - 1)) && numB b 0 none && seenB c) := rfl
        rw [hsp]; clear hsp
        generalize D.tup [.str w, a, b, c] = V at *
        generalize numB a 0 (some (mn - 1)) = B0 at *
        generalize numB b 0 none = B1 at *
        generalize seenB c = B2 at *
        by_cases w0 : w = "done"
        · subst w0; cases B0 <;> cases B1 <;> cases B2 <;> (simp [d_is_body, b_is_body, t2, isTy, nma, n0b, sec, i0, i1, i2, i3, hlen, co, dw, hw, isin2, -PyD.is_non, Bool.or_false, Bool.and_false]; try exact fin_0 rfl)
        have w0 : (w == "done") = false := by simpa using w0
        by_cases w1 : w = "void"
        · subst w1; cases B0 <;> cases B1 <;> cases B2 <;> (simp [d_is_body, b_is_body, t2, isTy, nma, n0b, sec, i0, i1, i2, i3, hlen, co, dw, w0, hw, isin2, -PyD.is_non, Bool.or_false, Bool.and_false]; try exact fin_0 rfl)
        have w1 : (w == "void") = false := by simpa using w1
        by_cases w2 : w = "silent"
        · subst w2; cases B0 <;> cases B1 <;> cases B2 <;> (simp [d_is_body, b_is_body, t2, isTy, nma, n0b, sec, i0, i1, i2, i3, hlen, co, dw, w0, w1, hw, isin2, -PyD.is_non, Bool.or_false, Bool.and_false]; try exact fin_0 rfl)
        have w2 : (w == "silent") = false := by simpa using w2
        by_cases w3 : w = "change"
        · subst w3; cases B0 <;> cases B1 <;> cases B2 <;> (simp [d_is_body, b_is_body, t2, isTy, nma, n0b, sec, i0, i1, i2, i3, hlen, co, dw, w0, w1, w2, hw, isin2, -PyD.is_non, Bool.or_false, Bool.and_false]; try exact fin_0 rfl)
        have w3 : (w == "change") = false := by simpa using w3
        by_cases w4 : w = "back"
        · subst w4; cases B0 <;> cases B1 <;> cases B2 <;> (simp [d_is_body, b_is_body, t2, isTy, nma, n0b, sec, i0, i1, i2, i3, hlen, co, dw, w0, w1, w2, w3, hw, isin2, -PyD.is_non, Bool.or_false, Bool.and_false]; try exact fin_0 rfl)
        have w4 : (w == "back") = false := by simpa using w4
        cases B0 <;> cases B1 <;> cases B2 <;> (simp [d_is_body, b_is_body, t2, isTy, nma, n0b, sec, i0, i1, i2, i3, hlen, co, dw, w0, w1, w2, w3, w4, hw, isin2, -PyD.is_non, Bool.or_false, Bool.and_false]; try exact fin_0 rfl)
      | [a, b, c, d], hc, hs, hd =>
        have ca : closed a = true := cl_at hc (by simp)
        have sa : smD a = true := smD_at hs (by simp)
        have da : depD a ≤ 50 := dep_at hd (by simp)
        have cb : closed b = true := cl_at hc (by simp)
        have sb : smD b = true := smD_at hs (by simp)
        have db : depD b ≤ 50 := dep_at hd (by simp)
        have cc : closed c = true := cl_at hc (by simp)
        have sc : smD c = true := smD_at hs (by simp)
        have dc : depD c ≤ 50 := dep_at hd (by simp)
        have cd : closed d = true := cl_at hc (by simp)
        have sd : smD d = true := smD_at hs (by simp)
        have dd : depD d ≤ 50 := dep_at hd (by simp)
        have nma : ∀ h, callC (tabF L fuel k 1) [a, .int 0, .int (mn - 1)] h = some (.bl (numB a 0 (some (mn - 1))), h) := fun h => c_num (fuel := fuel) (k := k) (by omega) a ca 0 (mn - 1) h
        have n0b : ∀ h, callC (tabF L fuel k 1) [b, .int 0, .non] h = some (.bl (numB b 0 none), h) := fun h => c_num0 (fuel := fuel) (k := k) (by omega) b cb 0 h
        have isd : ∀ h, isTyH d .str h = some (isS d) := fun h => isty_s cd h
        have i0 : ∀ H, index (.tup [.str w, a, b, c, d]) (.int 0) H = some (.str w) := fun H => ixs (n := 0) rfl H
        have i1 : ∀ H, index (.tup [.str w, a, b, c, d]) (.int 1) H = some a := fun H => ixs (n := 1) rfl H
        have i2 : ∀ H, index (.tup [.str w, a, b, c, d]) (.int 2) H = some b := fun H => ixs (n := 2) rfl H
        have i3 : ∀ H, index (.tup [.str w, a, b, c, d]) (.int 3) H = some c := fun H => ixs (n := 3) rfl H
        have i4 : ∀ H, index (.tup [.str w, a, b, c, d]) (.int 4) H = some d := fun H => ixs (n := 4) rfl H
        have hlen : ∀ H, bltf .len [.tup [.str w, a, b, c, d]] H = some (.int 5) := fun _ => rfl
        have co : ∀ h, callC (tabF L fuel k 9) [.int mn, .tup [.str w, a, b, c, d]] h = some (.bl (numB a 0 (some (mn - 1)) && numB b 0 none && isS d && wordD d && hw (.str w) "change"), h) := fun h => c_cour (fuel := fuel) (k := k) (by omega) mn _ hc hs hd ⟨_, _, rfl⟩ h
        have dw : ∀ H, cmpop .eq (.tup [.str w, a, b, c, d]) (.tup [.str "dawn"]) H = some false := fun H => by rw [eq_dawn hc hd]; simp [eqD, eqDs, beqD]
        have hsp : bodyB mn (.tup [.str w, a, b, c, d]) = (hw (.str w) "change" && numB a 0 (some (mn - 1)) && numB b 0 none && isS d && wordD d) := rfl
        rw [hsp]; clear hsp
        generalize D.tup [.str w, a, b, c, d] = V at *
        generalize numB a 0 (some (mn - 1)) = B0 at *
        generalize numB b 0 none = B1 at *
        generalize isS d = B2 at *
        by_cases w0 : w = "done"
        · subst w0; cases B0 <;> cases B1 <;> cases B2 <;> (simp [d_is_body, b_is_body, t2, isTy, nma, n0b, isd, i0, i1, i2, i3, i4, hlen, co, dw, hw, isin2, -PyD.is_non, Bool.or_false, Bool.and_false]; try exact fin_0 rfl)
        have w0 : (w == "done") = false := by simpa using w0
        by_cases w1 : w = "void"
        · subst w1; cases B0 <;> cases B1 <;> cases B2 <;> (simp [d_is_body, b_is_body, t2, isTy, nma, n0b, isd, i0, i1, i2, i3, i4, hlen, co, dw, w0, hw, isin2, -PyD.is_non, Bool.or_false, Bool.and_false]; try exact fin_0 rfl)
        have w1 : (w == "void") = false := by simpa using w1
        by_cases w2 : w = "silent"
        · subst w2; cases B0 <;> cases B1 <;> cases B2 <;> (simp [d_is_body, b_is_body, t2, isTy, nma, n0b, isd, i0, i1, i2, i3, i4, hlen, co, dw, w0, w1, hw, isin2, -PyD.is_non, Bool.or_false, Bool.and_false]; try exact fin_0 rfl)
        have w2 : (w == "silent") = false := by simpa using w2
        by_cases w3 : w = "change"
        · subst w3; cases B0 <;> cases B1 <;> cases B2 <;> (simp [d_is_body, b_is_body, t2, isTy, nma, n0b, isd, i0, i1, i2, i3, i4, hlen, co, dw, w0, w1, w2, hw, isin2, -PyD.is_non, Bool.or_false, Bool.and_false]; try exact fin_0 rfl)
        have w3 : (w == "change") = false := by simpa using w3
        by_cases w4 : w = "back"
        · subst w4; cases B0 <;> cases B1 <;> cases B2 <;> (simp [d_is_body, b_is_body, t2, isTy, nma, n0b, isd, i0, i1, i2, i3, i4, hlen, co, dw, w0, w1, w2, w3, hw, isin2, -PyD.is_non, Bool.or_false, Bool.and_false]; try exact fin_0 rfl)
        have w4 : (w == "back") = false := by simpa using w4
        cases B0 <;> cases B1 <;> cases B2 <;> (simp [d_is_body, b_is_body, t2, isTy, nma, n0b, isd, i0, i1, i2, i3, i4, hlen, co, dw, w0, w1, w2, w3, w4, hw, isin2, -PyD.is_non, Bool.or_false, Bool.and_false]; try exact fin_0 rfl)
      | [a, b, c, d, e], hc, hs, hd =>
        have ca : closed a = true := cl_at hc (by simp)
        have sa : smD a = true := smD_at hs (by simp)
        have da : depD a ≤ 50 := dep_at hd (by simp)
        have cb : closed b = true := cl_at hc (by simp)
        have sb : smD b = true := smD_at hs (by simp)
        have db : depD b ≤ 50 := dep_at hd (by simp)
        have cc : closed c = true := cl_at hc (by simp)
        have sc : smD c = true := smD_at hs (by simp)
        have dc : depD c ≤ 50 := dep_at hd (by simp)
        have cd : closed d = true := cl_at hc (by simp)
        have sd : smD d = true := smD_at hs (by simp)
        have dd : depD d ≤ 50 := dep_at hd (by simp)
        have ce : closed e = true := cl_at hc (by simp)
        have se : smD e = true := smD_at hs (by simp)
        have de : depD e ≤ 50 := dep_at hd (by simp)
        have nma : ∀ h, callC (tabF L fuel k 1) [a, .int 0, .int (mn - 1)] h = some (.bl (numB a 0 (some (mn - 1))), h) := fun h => c_num (fuel := fuel) (k := k) (by omega) a ca 0 (mn - 1) h
        have n0b : ∀ h, callC (tabF L fuel k 1) [b, .int 0, .non] h = some (.bl (numB b 0 none), h) := fun h => c_num0 (fuel := fuel) (k := k) (by omega) b cb 0 h
        have isd : ∀ h, isTyH d .str h = some (isS d) := fun h => isty_s cd h
        have n0c : ∀ h, callC (tabF L fuel k 1) [c, .int 0, .non] h = some (.bl (numB c 0 none), h) := fun h => c_num0 (fuel := fuel) (k := k) (by omega) c cc 0 h
        have ite : ∀ h, callC (tabF L fuel k 2) [e, .non] h = some (.bl (isT e), h) := fun h => c_istup (fuel := fuel) (k := k) (by omega) e ce h
        have i0 : ∀ H, index (.tup [.str w, a, b, c, d, e]) (.int 0) H = some (.str w) := fun H => ixs (n := 0) rfl H
        have i1 : ∀ H, index (.tup [.str w, a, b, c, d, e]) (.int 1) H = some a := fun H => ixs (n := 1) rfl H
        have i2 : ∀ H, index (.tup [.str w, a, b, c, d, e]) (.int 2) H = some b := fun H => ixs (n := 2) rfl H
        have i3 : ∀ H, index (.tup [.str w, a, b, c, d, e]) (.int 3) H = some c := fun H => ixs (n := 3) rfl H
        have i4 : ∀ H, index (.tup [.str w, a, b, c, d, e]) (.int 4) H = some d := fun H => ixs (n := 4) rfl H
        have i5 : ∀ H, index (.tup [.str w, a, b, c, d, e]) (.int 5) H = some e := fun H => ixs (n := 5) rfl H
        have hlen : ∀ H, bltf .len [.tup [.str w, a, b, c, d, e]] H = some (.int 6) := fun _ => rfl
        have co : ∀ h, callC (tabF L fuel k 9) [.int mn, .tup [.str w, a, b, c, d, e]] h = some (.bl (numB a 0 (some (mn - 1)) && numB b 0 none && isS d && wordD d && !hw (.str w) "change" && numB c 0 none && isT e && numsT e), h) := fun h => c_cour (fuel := fuel) (k := k) (by omega) mn _ hc hs hd ⟨_, _, rfl⟩ h
        have dw : ∀ H, cmpop .eq (.tup [.str w, a, b, c, d, e]) (.tup [.str "dawn"]) H = some false := fun H => by rw [eq_dawn hc hd]; simp [eqD, eqDs, beqD]
        have hsp : bodyB mn (.tup [.str w, a, b, c, d, e]) = (hw (.str w) "back" && numB a 0 (some (mn - 1)) && numB b 0 none && isS d && wordD d && numB c 0 none && isT e && numsT e) := rfl
        rw [hsp]; clear hsp
        generalize D.tup [.str w, a, b, c, d, e] = V at *
        generalize numB a 0 (some (mn - 1)) = B0 at *
        generalize numB b 0 none = B1 at *
        generalize isS d = B2 at *
        generalize numB c 0 none = B3 at *
        generalize isT e = B4 at *
        by_cases w0 : w = "done"
        · subst w0; cases B0 <;> cases B1 <;> cases B2 <;> cases B3 <;> cases B4 <;> (simp [d_is_body, b_is_body, t2, isTy, nma, n0b, isd, n0c, ite, i0, i1, i2, i3, i4, i5, hlen, co, dw, hw, isin2, -PyD.is_non, Bool.or_false, Bool.and_false]; try exact fin_0 rfl)
        have w0 : (w == "done") = false := by simpa using w0
        by_cases w1 : w = "void"
        · subst w1; cases B0 <;> cases B1 <;> cases B2 <;> cases B3 <;> cases B4 <;> (simp [d_is_body, b_is_body, t2, isTy, nma, n0b, isd, n0c, ite, i0, i1, i2, i3, i4, i5, hlen, co, dw, w0, hw, isin2, -PyD.is_non, Bool.or_false, Bool.and_false]; try exact fin_0 rfl)
        have w1 : (w == "void") = false := by simpa using w1
        by_cases w2 : w = "silent"
        · subst w2; cases B0 <;> cases B1 <;> cases B2 <;> cases B3 <;> cases B4 <;> (simp [d_is_body, b_is_body, t2, isTy, nma, n0b, isd, n0c, ite, i0, i1, i2, i3, i4, i5, hlen, co, dw, w0, w1, hw, isin2, -PyD.is_non, Bool.or_false, Bool.and_false]; try exact fin_0 rfl)
        have w2 : (w == "silent") = false := by simpa using w2
        by_cases w3 : w = "change"
        · subst w3; cases B0 <;> cases B1 <;> cases B2 <;> cases B3 <;> cases B4 <;> (simp [d_is_body, b_is_body, t2, isTy, nma, n0b, isd, n0c, ite, i0, i1, i2, i3, i4, i5, hlen, co, dw, w0, w1, w2, hw, isin2, -PyD.is_non, Bool.or_false, Bool.and_false]; try exact fin_0 rfl)
        have w3 : (w == "change") = false := by simpa using w3
        by_cases w4 : w = "back"
        · subst w4; cases B0 <;> cases B1 <;> cases B2 <;> cases B3 <;> cases B4 <;> (simp [d_is_body, b_is_body, t2, isTy, nma, n0b, isd, n0c, ite, i0, i1, i2, i3, i4, i5, hlen, co, dw, w0, w1, w2, w3, hw, isin2, -PyD.is_non, Bool.or_false, Bool.and_false]; try exact fin_0 rfl)
        have w4 : (w == "back") = false := by simpa using w4
        cases B0 <;> cases B1 <;> cases B2 <;> cases B3 <;> cases B4 <;> (simp [d_is_body, b_is_body, t2, isTy, nma, n0b, isd, n0c, ite, i0, i1, i2, i3, i4, i5, hlen, co, dw, w0, w1, w2, w3, w4, hw, isin2, -PyD.is_non, Bool.or_false, Bool.and_false]; try exact fin_0 rfl)
      | a :: b :: c :: d :: e :: f :: r, hc, hs, hd =>
        have ca : closed a = true := cl_at hc (by simp)
        have sa : smD a = true := smD_at hs (by simp)
        have da : depD a ≤ 50 := dep_at hd (by simp)
        have cb : closed b = true := cl_at hc (by simp)
        have sb : smD b = true := smD_at hs (by simp)
        have db : depD b ≤ 50 := dep_at hd (by simp)
        have cc : closed c = true := cl_at hc (by simp)
        have sc : smD c = true := smD_at hs (by simp)
        have dc : depD c ≤ 50 := dep_at hd (by simp)
        have cd : closed d = true := cl_at hc (by simp)
        have sd : smD d = true := smD_at hs (by simp)
        have dd : depD d ≤ 50 := dep_at hd (by simp)
        have ce : closed e = true := cl_at hc (by simp)
        have se : smD e = true := smD_at hs (by simp)
        have de : depD e ≤ 50 := dep_at hd (by simp)
        have i0 : ∀ H, index (.tup (.str w :: a :: b :: c :: d :: e :: f :: r)) (.int 0) H = some (.str w) := fun H => ixs (n := 0) rfl H
        have i1 : ∀ H, index (.tup (.str w :: a :: b :: c :: d :: e :: f :: r)) (.int 1) H = some a := fun H => ixs (n := 1) rfl H
        have i2 : ∀ H, index (.tup (.str w :: a :: b :: c :: d :: e :: f :: r)) (.int 2) H = some b := fun H => ixs (n := 2) rfl H
        have i3 : ∀ H, index (.tup (.str w :: a :: b :: c :: d :: e :: f :: r)) (.int 3) H = some c := fun H => ixs (n := 3) rfl H
        have i4 : ∀ H, index (.tup (.str w :: a :: b :: c :: d :: e :: f :: r)) (.int 4) H = some d := fun H => ixs (n := 4) rfl H
        have hlen : ∀ H, bltf .len [.tup (.str w :: a :: b :: c :: d :: e :: f :: r)] H = some (.int ((r.length : Nat) + 7 : Int)) := fun H => by rw [len_tup]; simp; omega
        have l0 : (((r.length : Nat) : Int) + 7 == 0) = false := by rw [beq_eq_false_iff_ne]; omega
        have l1 : (((r.length : Nat) : Int) + 7 == 1) = false := by rw [beq_eq_false_iff_ne]; omega
        have l2 : (((r.length : Nat) : Int) + 7 == 2) = false := by rw [beq_eq_false_iff_ne]; omega
        have l3 : (((r.length : Nat) : Int) + 7 == 3) = false := by rw [beq_eq_false_iff_ne]; omega
        have l4 : (((r.length : Nat) : Int) + 7 == 4) = false := by rw [beq_eq_false_iff_ne]; omega
        have m4 : decide (((r.length : Nat) : Int) + 7 < 4) = false := by simp; omega
        have m4b : ¬ (((r.length : Nat) : Int) + 7 < 4) := by omega
        have m5 : decide (((r.length : Nat) : Int) + 7 < 5) = false := by simp; omega
        have m5b : ¬ (((r.length : Nat) : Int) + 7 < 5) := by omega
        have co : ∀ h, callC (tabF L fuel k 9) [.int mn, .tup (.str w :: a :: b :: c :: d :: e :: f :: r)] h = some (.bl false, h) := fun h => c_cour (fuel := fuel) (k := k) (by omega) mn _ hc hs hd ⟨_, _, rfl⟩ h
        have dw : ∀ H, cmpop .eq (.tup (.str w :: a :: b :: c :: d :: e :: f :: r)) (.tup [.str "dawn"]) H = some false := fun H => by rw [eq_dawn hc hd]; simp [eqD, eqDs, beqD]
        rw [bodyB_7]
        generalize ((r.length : Nat) : Int) = LN at *
        generalize D.tup (.str w :: a :: b :: c :: d :: e :: f :: r) = V at *
        by_cases w0 : w = "done"
        · subst w0; (simp [d_is_body, b_is_body, t2, isTy, i0, i1, i2, i3, i4, hlen, l0, l1, l2, l3, l4, m4, m4b, m5, m5b, co, dw, hw, isin2, -PyD.is_non, Bool.or_false, Bool.and_false]; try exact fin_0 rfl)
        have w0 : (w == "done") = false := by simpa using w0
        by_cases w1 : w = "void"
        · subst w1; (simp [d_is_body, b_is_body, t2, isTy, i0, i1, i2, i3, i4, hlen, l0, l1, l2, l3, l4, m4, m4b, m5, m5b, co, dw, w0, hw, isin2, -PyD.is_non, Bool.or_false, Bool.and_false]; try exact fin_0 rfl)
        have w1 : (w == "void") = false := by simpa using w1
        by_cases w2 : w = "silent"
        · subst w2; (simp [d_is_body, b_is_body, t2, isTy, i0, i1, i2, i3, i4, hlen, l0, l1, l2, l3, l4, m4, m4b, m5, m5b, co, dw, w0, w1, hw, isin2, -PyD.is_non, Bool.or_false, Bool.and_false]; try exact fin_0 rfl)
        have w2 : (w == "silent") = false := by simpa using w2
        by_cases w3 : w = "change"
        · subst w3; (simp [d_is_body, b_is_body, t2, isTy, i0, i1, i2, i3, i4, hlen, l0, l1, l2, l3, l4, m4, m4b, m5, m5b, co, dw, w0, w1, w2, hw, isin2, -PyD.is_non, Bool.or_false, Bool.and_false]; try exact fin_0 rfl)
        have w3 : (w == "change") = false := by simpa using w3
        by_cases w4 : w = "back"
        · subst w4; (simp [d_is_body, b_is_body, t2, isTy, i0, i1, i2, i3, i4, hlen, l0, l1, l2, l3, l4, m4, m4b, m5, m5b, co, dw, w0, w1, w2, w3, hw, isin2, -PyD.is_non, Bool.or_false, Bool.and_false]; try exact fin_0 rfl)
        have w4 : (w == "back") = false := by simpa using w4
        (simp [d_is_body, b_is_body, t2, isTy, i0, i1, i2, i3, i4, hlen, l0, l1, l2, l3, l4, m4, m4b, m5, m5b, co, dw, w0, w1, w2, w3, w4, hw, isin2, -PyD.is_non, Bool.or_false, Bool.and_false]; try exact fin_0 rfl)
  | _ =>
    simp only [isT] at t2
    (simp [d_is_body, b_is_body, t2, bodyB, hw, isin2, -PyD.is_non, Bool.or_false, Bool.and_false]; try exact fin_0 rfl)
theorem c_body {k : Nat} (hk : 5 ≤ k) (mn : Int) (v : D) (hc : closed v = true) (hs : smD v = true) (hd : depD v ≤ 50) (h : AH) : callC (tabF L fuel k 8) [.int mn, v] h = some (.bl (bodyB mn v), h) := callV (by simp [hc, closeds, closed]) (body_run hk mn v hc hs hd) rfl
theorem agr_run {k : Nat} (hk : 4 ≤ k) (mn : Int) (w : String) (a b : D) (hc : closed (.tup [.str w, a, b]) = true) : tabF L fuel k 14 [.int mn, .tup [.str w, a, b]] [] = some (.bl (hw (.str w) "agree" && numB a 0 (some (mn - 1))), []) := by
  obtain ⟨k, rfl⟩ : ∃ m, k = m + 1 := ⟨k - 1, by omega⟩
  have ca : closed a = true := cl_at hc (by simp)
  have nm := fun h => c_num (fuel := fuel) (k := k) (by omega) a ca 0 (mn - 1) h
  have t2 : ∀ h, callC (tabF L fuel k 2) [.tup [.str w, a, b], .int 3] h = some (.bl true, h) := fun h => callV (by simpa [closeds, closed] using hc) (tupn_run (fuel := fuel) (k := k) (by omega) _ hc (some 3)) rfl
  have i0 : ∀ H, index (.tup [.str w, a, b]) (.int 0) H = some (.str w) := fun H => ixs (n := 0) rfl H
  have i1 : ∀ H, index (.tup [.str w, a, b]) (.int 1) H = some a := fun H => ixs (n := 1) rfl H
  rw [tab_step (d := d_is_agreeing) rfl]
  generalize D.tup [.str w, a, b] = V at *
  generalize numB a 0 (some (mn - 1)) = B at *
  by_cases w0 : w = "agree"
  · subst w0; cases B <;> (simp [d_is_agreeing, b_is_agreeing, t2, i0, i1, nm, hw]; try exact fin_0 rfl)
  have w0 : (w == "agree") = false := by simpa using w0
  (simp [d_is_agreeing, b_is_agreeing, t2, i0, i1, nm, hw, w0]; try exact fin_0 rfl)
theorem desk4_run {k : Nat} (hk : 5 ≤ k) (mn : Int) (w : String) (a b c : D) (hc : closed (.tup [.str w, a, b, c]) = true) (hs : smD (.tup [.str w, a, b, c]) = true) (hd : depD (.tup [.str w, a, b, c]) ≤ 50) : tabF L fuel k 13 [.int mn, .tup [.str w, a, b, c]] [] = some (.bl (numB a 0 (some (mn - 1)) && numB b 0 none && ((hw (.str w) "seen" && choB c) || (hw (.str w) "heard" && numB c 0 none))), []) := by
  obtain ⟨k, rfl⟩ : ∃ m, k = m + 1 := ⟨k - 1, by omega⟩
  have t2 := fun h => c_istup (fuel := fuel) (k := k) (by omega) _ hc h
  rw [tab_step (d := d_is_desks_letter) rfl]
  simp only [isT] at t2
  have ca : closed a = true := cl_at hc (by simp)
  have sa : smD a = true := smD_at hs (by simp)
  have da : depD a ≤ 50 := dep_at hd (by simp)
  have cb : closed b = true := cl_at hc (by simp)
  have sb : smD b = true := smD_at hs (by simp)
  have db : depD b ≤ 50 := dep_at hd (by simp)
  have cc : closed c = true := cl_at hc (by simp)
  have sc : smD c = true := smD_at hs (by simp)
  have dc : depD c ≤ 50 := dep_at hd (by simp)
  have nma : ∀ h, callC (tabF L fuel k 1) [a, .int 0, .int (mn - 1)] h = some (.bl (numB a 0 (some (mn - 1))), h) := fun h => c_num (fuel := fuel) (k := k) (by omega) a ca 0 (mn - 1) h
  have n0b : ∀ h, callC (tabF L fuel k 1) [b, .int 0, .non] h = some (.bl (numB b 0 none), h) := fun h => c_num0 (fuel := fuel) (k := k) (by omega) b cb 0 h
  have chc : ∀ h, callC (tabF L fuel k 6) [c] h = some (.bl (choB c), h) := fun h => c_choice (fuel := fuel) (k := k) (by omega) c cc h
  have n0c : ∀ h, callC (tabF L fuel k 1) [c, .int 0, .non] h = some (.bl (numB c 0 none), h) := fun h => c_num0 (fuel := fuel) (k := k) (by omega) c cc 0 h
  have i0 : ∀ H, index (.tup [.str w, a, b, c]) (.int 0) H = some (.str w) := fun H => ixs (n := 0) rfl H
  have i1 : ∀ H, index (.tup [.str w, a, b, c]) (.int 1) H = some a := fun H => ixs (n := 1) rfl H
  have i2 : ∀ H, index (.tup [.str w, a, b, c]) (.int 2) H = some b := fun H => ixs (n := 2) rfl H
  have i3 : ∀ H, index (.tup [.str w, a, b, c]) (.int 3) H = some c := fun H => ixs (n := 3) rfl H
  have hlen : ∀ H, bltf .len [.tup [.str w, a, b, c]] H = some (.int 4) := fun _ => rfl
  generalize D.tup [.str w, a, b, c] = V at *
  generalize numB a 0 (some (mn - 1)) = B0 at *
  generalize numB b 0 none = B1 at *
  generalize choB c = B2 at *
  generalize numB c 0 none = B3 at *
  by_cases w0 : w = "ask"
  · subst w0; cases B0 <;> cases B1 <;> cases B2 <;> cases B3 <;> (simp [d_is_desks_letter, b_is_desks_letter, t2, nma, n0b, chc, n0c, i0, i1, i2, i3, hlen, hw, -PyD.is_non]; try exact fin_0 rfl)
  have w0 : (w == "ask") = false := by simpa using w0
  by_cases w1 : w = "seen"
  · subst w1; cases B0 <;> cases B1 <;> cases B2 <;> cases B3 <;> (simp [d_is_desks_letter, b_is_desks_letter, t2, nma, n0b, chc, n0c, i0, i1, i2, i3, hlen, w0, hw, -PyD.is_non]; try exact fin_0 rfl)
  have w1 : (w == "seen") = false := by simpa using w1
  by_cases w2 : w = "heard"
  · subst w2; cases B0 <;> cases B1 <;> cases B2 <;> cases B3 <;> (simp [d_is_desks_letter, b_is_desks_letter, t2, nma, n0b, chc, n0c, i0, i1, i2, i3, hlen, w0, w1, hw, -PyD.is_non]; try exact fin_0 rfl)
  have w2 : (w == "heard") = false := by simpa using w2
  cases B0 <;> cases B1 <;> cases B2 <;> cases B3 <;> (simp [d_is_desks_letter, b_is_desks_letter, t2, nma, n0b, chc, n0c, i0, i1, i2, i3, hlen, w0, w1, w2, hw, -PyD.is_non]; try exact fin_0 rfl)
theorem desk6_run {k : Nat} (hk : 5 ≤ k) (mn : Int) (w : String) (a b c d e : D) (hc : closed (.tup [.str w, a, b, c, d, e]) = true) (hs : smD (.tup [.str w, a, b, c, d, e]) = true) (hd : depD (.tup [.str w, a, b, c, d, e]) ≤ 50) : tabF L fuel k 13 [.int mn, .tup [.str w, a, b, c, d, e]] [] = some (.bl (hw (.str w) "ask" && numB a 0 (some (mn - 1)) && numB b 0 none && choB c && numB d 0 none && numsN e 2), []) := by
  obtain ⟨k, rfl⟩ : ∃ m, k = m + 1 := ⟨k - 1, by omega⟩
  have t2 := fun h => c_istup (fuel := fuel) (k := k) (by omega) _ hc h
  rw [tab_step (d := d_is_desks_letter) rfl]
  simp only [isT] at t2
  have ca : closed a = true := cl_at hc (by simp)
  have sa : smD a = true := smD_at hs (by simp)
  have da : depD a ≤ 50 := dep_at hd (by simp)
  have cb : closed b = true := cl_at hc (by simp)
  have sb : smD b = true := smD_at hs (by simp)
  have db : depD b ≤ 50 := dep_at hd (by simp)
  have cc : closed c = true := cl_at hc (by simp)
  have sc : smD c = true := smD_at hs (by simp)
  have dc : depD c ≤ 50 := dep_at hd (by simp)
  have cd : closed d = true := cl_at hc (by simp)
  have sd : smD d = true := smD_at hs (by simp)
  have dd : depD d ≤ 50 := dep_at hd (by simp)
  have ce : closed e = true := cl_at hc (by simp)
  have se : smD e = true := smD_at hs (by simp)
  have de : depD e ≤ 50 := dep_at hd (by simp)
  have nma : ∀ h, callC (tabF L fuel k 1) [a, .int 0, .int (mn - 1)] h = some (.bl (numB a 0 (some (mn - 1))), h) := fun h => c_num (fuel := fuel) (k := k) (by omega) a ca 0 (mn - 1) h
  have n0b : ∀ h, callC (tabF L fuel k 1) [b, .int 0, .non] h = some (.bl (numB b 0 none), h) := fun h => c_num0 (fuel := fuel) (k := k) (by omega) b cb 0 h
  have chc : ∀ h, callC (tabF L fuel k 6) [c] h = some (.bl (choB c), h) := fun h => c_choice (fuel := fuel) (k := k) (by omega) c cc h
  have n0d : ∀ h, callC (tabF L fuel k 1) [d, .int 0, .non] h = some (.bl (numB d 0 none), h) := fun h => c_num0 (fuel := fuel) (k := k) (by omega) d cd 0 h
  have n2e : ∀ h, callC (tabF L fuel k 12) [e] h = some (.bl (numsN e 2), h) := fun h => c_mark (fuel := fuel) (k := k) (by omega) e ce se h
  have i0 : ∀ H, index (.tup [.str w, a, b, c, d, e]) (.int 0) H = some (.str w) := fun H => ixs (n := 0) rfl H
  have i1 : ∀ H, index (.tup [.str w, a, b, c, d, e]) (.int 1) H = some a := fun H => ixs (n := 1) rfl H
  have i2 : ∀ H, index (.tup [.str w, a, b, c, d, e]) (.int 2) H = some b := fun H => ixs (n := 2) rfl H
  have i3 : ∀ H, index (.tup [.str w, a, b, c, d, e]) (.int 3) H = some c := fun H => ixs (n := 3) rfl H
  have i4 : ∀ H, index (.tup [.str w, a, b, c, d, e]) (.int 4) H = some d := fun H => ixs (n := 4) rfl H
  have i5 : ∀ H, index (.tup [.str w, a, b, c, d, e]) (.int 5) H = some e := fun H => ixs (n := 5) rfl H
  have hlen : ∀ H, bltf .len [.tup [.str w, a, b, c, d, e]] H = some (.int 6) := fun _ => rfl
  generalize D.tup [.str w, a, b, c, d, e] = V at *
  generalize numB a 0 (some (mn - 1)) = B0 at *
  generalize numB b 0 none = B1 at *
  generalize choB c = B2 at *
  generalize numB d 0 none = B3 at *
  generalize numsN e 2 = B4 at *
  by_cases w0 : w = "ask"
  · subst w0; cases B0 <;> cases B1 <;> cases B2 <;> cases B3 <;> cases B4 <;> (simp [d_is_desks_letter, b_is_desks_letter, t2, nma, n0b, chc, n0d, n2e, i0, i1, i2, i3, i4, i5, hlen, hw, -PyD.is_non]; try exact fin_0 rfl)
  have w0 : (w == "ask") = false := by simpa using w0
  by_cases w1 : w = "seen"
  · subst w1; cases B0 <;> cases B1 <;> cases B2 <;> cases B3 <;> cases B4 <;> (simp [d_is_desks_letter, b_is_desks_letter, t2, nma, n0b, chc, n0d, n2e, i0, i1, i2, i3, i4, i5, hlen, w0, hw, -PyD.is_non]; try exact fin_0 rfl)
  have w1 : (w == "seen") = false := by simpa using w1
  by_cases w2 : w = "heard"
  · subst w2; cases B0 <;> cases B1 <;> cases B2 <;> cases B3 <;> cases B4 <;> (simp [d_is_desks_letter, b_is_desks_letter, t2, nma, n0b, chc, n0d, n2e, i0, i1, i2, i3, i4, i5, hlen, w0, w1, hw, -PyD.is_non]; try exact fin_0 rfl)
  have w2 : (w == "heard") = false := by simpa using w2
  cases B0 <;> cases B1 <;> cases B2 <;> cases B3 <;> cases B4 <;> (simp [d_is_desks_letter, b_is_desks_letter, t2, nma, n0b, chc, n0d, n2e, i0, i1, i2, i3, i4, i5, hlen, w0, w1, w2, hw, -PyD.is_non]; try exact fin_0 rfl)
theorem cl_drop {ds : List D} (n : Nat) (h : closed (.tup ds) = true) : closed (.tup (ds.drop n)) = true := by
  simp only [closed] at h ⊢
  exact closeds_dropD n h
theorem smDs_drop : ∀ {ds : List D} (n : Nat), smDs ds = true → smDs (ds.drop n) = true
  | ds, 0, h => h
  | [], n + 1, h => rfl
  | d :: ds, n + 1, h => by
    simp only [smDs, Bool.and_eq_true] at h
    exact smDs_drop (ds := ds) n h.2
theorem sm_drop {ds : List D} (n : Nat) (h : smD (.tup ds) = true) : smD (.tup (ds.drop n)) = true := by
  have h1 := smD_t h
  simp only [smD, Bool.and_eq_true, decide_eq_true_eq]
  exact ⟨by simp; omega, smDs_drop n h1.2⟩
theorem letter_run {k : Nat} (hk : 6 ≤ k) (mn : Int) (v : D) (hc : closed v = true) (hs : smD v = true) (hd : depD v ≤ 50) : tabF L fuel k 15 [.int mn, v] [] = some (.bl (letB mn v), []) := by
  obtain ⟨k, rfl⟩ : ∃ m, k = m + 1 := ⟨k - 1, by omega⟩
  have t2 := fun h => c_istup (fuel := fuel) (k := k) (by omega) v hc h
  rw [tab_step (d := d_is_letter) rfl]
  cases v with
  | ref n => simp [closed] at hc
  | fn n => simp [closed] at hc
  | tup ds =>
    simp only [isT] at t2
    match ds, hc, hs, hd with
    | [], hc, hs, hd => (simp [d_is_letter, b_is_letter, t2, letB_nil, hw, isin2, -PyD.is_non, Bool.or_false, Bool.and_false, nin346]; try exact fin_0 rfl)
    | x :: r, hc, hs, hd =>
      have cx : closed x = true := cl_at hc (by simp)
      by_cases hx : ∃ w, x = .str w
      case neg =>
        have hx : ∀ w, x ≠ .str w := fun w z => hx ⟨w, z⟩
        rw [letB_head hx]
        have hlen : ∀ H, bltf .len [.tup (x :: r)] H = some (.int ((r.length : Nat) + 1 : Int)) := fun H => by rw [len_tup]; simp
        have l0 : (((r.length : Nat) : Int) + 1 == 0) = false := by rw [beq_eq_false_iff_ne]; omega
        have i0 : ∀ H, index (.tup (x :: r)) (.int 0) H = some x := fun H => ixs (n := 0) rfl H
        have hst := notstr cx hx
        generalize D.tup (x :: r) = V at *
        have hb : ∃ B, ((((r.length : Nat) : Int) + 1 == 3) || (((r.length : Nat) : Int) + 1 == 4) || (((r.length : Nat) : Int) + 1 == 6)) = B := ⟨_, rfl⟩
        obtain ⟨B, hb⟩ := hb
        have hb2 : ∀ H, cmpop .notin (.int (((r.length : Nat) : Int) + 1)) (.tup [.int 3, .int 4, .int 6]) H = some (!B) := fun H => by rw [nin346, hb]
        generalize ((r.length : Nat) : Int) = LN at *
        cases B <;> (simp [d_is_letter, b_is_letter, t2, hlen, l0, i0, hst, hb2, hw, isin2, -PyD.is_non]; try exact fin_0 rfl)
      obtain ⟨w, rfl⟩ := hx
      match r, hc, hs, hd with
      | [], hc, hs, hd =>
        have i0 : ∀ H, index (.tup [.str w]) (.int 0) H = some (.str w) := fun H => ixs (n := 0) rfl H
        have hlen : ∀ H, bltf .len [.tup [.str w]] H = some (.int 1) := fun _ => rfl
        have hsp : letB mn (.tup [.str w]) = false := rfl
        rw [hsp]; clear hsp
        generalize D.tup [.str w] = V at *
        (simp [d_is_letter, b_is_letter, t2, isTy, i0, hlen, hw, isin2, -PyD.is_non, Bool.or_false, Bool.and_false, nin346]; try exact fin_0 rfl)
      | [a], hc, hs, hd =>
        have ca : closed a = true := cl_at hc (by simp)
        have sa : smD a = true := smD_at hs (by simp)
        have da : depD a ≤ 50 := dep_at hd (by simp)
        have i0 : ∀ H, index (.tup [.str w, a]) (.int 0) H = some (.str w) := fun H => ixs (n := 0) rfl H
        have i1 : ∀ H, index (.tup [.str w, a]) (.int 1) H = some a := fun H => ixs (n := 1) rfl H
        have hlen : ∀ H, bltf .len [.tup [.str w, a]] H = some (.int 2) := fun _ => rfl
        have hsp : letB mn (.tup [.str w, a]) = false := rfl
        rw [hsp]; clear hsp
        generalize D.tup [.str w, a] = V at *
        (simp [d_is_letter, b_is_letter, t2, isTy, i0, i1, hlen, hw, isin2, -PyD.is_non, Bool.or_false, Bool.and_false, nin346]; try exact fin_0 rfl)
      | [a, b], hc, hs, hd =>
        have ca : closed a = true := cl_at hc (by simp)
        have sa : smD a = true := smD_at hs (by simp)
        have da : depD a ≤ 50 := dep_at hd (by simp)
        have cb : closed b = true := cl_at hc (by simp)
        have sb : smD b = true := smD_at hs (by simp)
        have db : depD b ≤ 50 := dep_at hd (by simp)
        have i0 : ∀ H, index (.tup [.str w, a, b]) (.int 0) H = some (.str w) := fun H => ixs (n := 0) rfl H
        have i1 : ∀ H, index (.tup [.str w, a, b]) (.int 1) H = some a := fun H => ixs (n := 1) rfl H
        have i2 : ∀ H, index (.tup [.str w, a, b]) (.int 2) H = some b := fun H => ixs (n := 2) rfl H
        have hlen : ∀ H, bltf .len [.tup [.str w, a, b]] H = some (.int 3) := fun _ => rfl
        have ag : ∀ h, callC (tabF L fuel k 14) [.int mn, .tup [.str w, a, b]] h = some (.bl (hw (.str w) "agree" && numB a 0 (some (mn - 1))), h) := fun h => callV (by simpa [closeds, closed] using hc) (agr_run (by omega) mn w a b hc) rfl
        have hsp : letB mn (.tup [.str w, a, b]) = (hw (.str w) "agree" && numB a 0 (some (mn - 1))) := rfl
        rw [hsp]; clear hsp
        generalize D.tup [.str w, a, b] = V at *
        by_cases w0 : w = "agree"
        · subst w0; (simp [d_is_letter, b_is_letter, t2, isTy, i0, i1, i2, hlen, ag, hw, isin2, -PyD.is_non, Bool.or_false, Bool.and_false, nin346]; try exact fin_0 rfl)
        have w0 : (w == "agree") = false := by simpa using w0
        (simp [d_is_letter, b_is_letter, t2, isTy, i0, i1, i2, hlen, ag, w0, hw, isin2, -PyD.is_non, Bool.or_false, Bool.and_false, nin346]; try exact fin_0 rfl)
      | [a, b, c], hc, hs, hd =>
        have ca : closed a = true := cl_at hc (by simp)
        have sa : smD a = true := smD_at hs (by simp)
        have da : depD a ≤ 50 := dep_at hd (by simp)
        have cb : closed b = true := cl_at hc (by simp)
        have sb : smD b = true := smD_at hs (by simp)
        have db : depD b ≤ 50 := dep_at hd (by simp)
        have cc : closed c = true := cl_at hc (by simp)
        have sc : smD c = true := smD_at hs (by simp)
        have dc : depD c ≤ 50 := dep_at hd (by simp)
        have n0a : ∀ h, callC (tabF L fuel k 1) [a, .int 0, .non] h = some (.bl (numB a 0 none), h) := fun h => c_num0 (fuel := fuel) (k := k) (by omega) a ca 0 h
        have nma : ∀ h, callC (tabF L fuel k 1) [a, .int 0, .int (mn - 1)] h = some (.bl (numB a 0 (some (mn - 1))), h) := fun h => c_num (fuel := fuel) (k := k) (by omega) a ca 0 (mn - 1) h
        have n0b : ∀ h, callC (tabF L fuel k 1) [b, .int 0, .non] h = some (.bl (numB b 0 none), h) := fun h => c_num0 (fuel := fuel) (k := k) (by omega) b cb 0 h
        have n0c : ∀ h, callC (tabF L fuel k 1) [c, .int 0, .non] h = some (.bl (numB c 0 none), h) := fun h => c_num0 (fuel := fuel) (k := k) (by omega) c cc 0 h
        have bob : ∀ h, callC (tabF L fuel k 8) [.int mn, b] h = some (.bl (bodyB mn b), h) := fun h => c_body (fuel := fuel) (k := k) (by omega) mn b cb sb db h
        have chc : ∀ h, callC (tabF L fuel k 6) [c] h = some (.bl (choB c), h) := fun h => c_choice (fuel := fuel) (k := k) (by omega) c cc h
        have i0 : ∀ H, index (.tup [.str w, a, b, c]) (.int 0) H = some (.str w) := fun H => ixs (n := 0) rfl H
        have i1 : ∀ H, index (.tup [.str w, a, b, c]) (.int 1) H = some a := fun H => ixs (n := 1) rfl H
        have i2 : ∀ H, index (.tup [.str w, a, b, c]) (.int 2) H = some b := fun H => ixs (n := 2) rfl H
        have i3 : ∀ H, index (.tup [.str w, a, b, c]) (.int 3) H = some c := fun H => ixs (n := 3) rfl H
        have hlen : ∀ H, bltf .len [.tup [.str w, a, b, c]] H = some (.int 4) := fun _ => rfl
        have dk : ∀ h, callC (tabF L fuel k 13) [.int mn, .tup [.str w, a, b, c]] h = some (.bl (numB a 0 (some (mn - 1)) && numB b 0 none && ((hw (.str w) "seen" && choB c) || (hw (.str w) "heard" && numB c 0 none))), h) := fun h => callV (by simpa [closeds, closed] using hc) (desk4_run (by omega) mn w a b c hc hs hd) rfl
        have hsl : ∀ H, kSlc3 (.tup [.str w, a, b, c]) (some 2) (none, H) = some (.tup [b, c], H) := fun _ => rfl
        have n2s : ∀ h, callC (tabF L fuel k 3) [.tup [b, c], .int 2, .int 0, .non] h = some (.bl (numB b 0 none && numB c 0 none), h) := fun h => by rw [c_nums (fuel := fuel) (k := k) (by omega) (.tup [b, c]) (cl_drop 2 hc) (sm_drop 2 hs) 2 h]; simp [numsN]
        have hsp : letB mn (.tup [.str w, a, b, c]) = ((hw (.str w) "row" && numB a 0 none && bodyB mn b && numB c 0 none) || (hw (.str w) "took" && numB a 0 (some (mn - 1)) && numB b 0 none && numB c 0 none) || (numB a 0 (some (mn - 1)) && numB b 0 none && ((hw (.str w) "seen" && choB c) || (hw (.str w) "heard" && numB c 0 none)))) := rfl
        rw [hsp]; clear hsp
        generalize D.tup [.str w, a, b, c] = V at *
        generalize numB a 0 none = B0 at *
        generalize numB a 0 (some (mn - 1)) = B1 at *
        generalize numB b 0 none = B2 at *
        generalize numB c 0 none = B3 at *
        generalize bodyB mn b = B4 at *
        generalize choB c = B5 at *
        by_cases w0 : w = "row"
        · subst w0; cases B0 <;> cases B1 <;> cases B2 <;> cases B3 <;> cases B4 <;> cases B5 <;> (simp [d_is_letter, b_is_letter, t2, isTy, n0a, nma, n0b, n0c, bob, chc, i0, i1, i2, i3, hlen, dk, hsl, n2s, hw, isin2, -PyD.is_non, Bool.or_false, Bool.and_false, nin346]; try exact fin_0 rfl)
        have w0 : (w == "row") = false := by simpa using w0
        by_cases w1 : w = "took"
        · subst w1; cases B0 <;> cases B1 <;> cases B2 <;> cases B3 <;> cases B4 <;> cases B5 <;> (simp [d_is_letter, b_is_letter, t2, isTy, n0a, nma, n0b, n0c, bob, chc, i0, i1, i2, i3, hlen, dk, hsl, n2s, w0, hw, isin2, -PyD.is_non, Bool.or_false, Bool.and_false, nin346]; try exact fin_0 rfl)
        have w1 : (w == "took") = false := by simpa using w1
        by_cases w2 : w = "seen"
        · subst w2; cases B0 <;> cases B1 <;> cases B2 <;> cases B3 <;> cases B4 <;> cases B5 <;> (simp [d_is_letter, b_is_letter, t2, isTy, n0a, nma, n0b, n0c, bob, chc, i0, i1, i2, i3, hlen, dk, hsl, n2s, w0, w1, hw, isin2, -PyD.is_non, Bool.or_false, Bool.and_false, nin346]; try exact fin_0 rfl)
        have w2 : (w == "seen") = false := by simpa using w2
        by_cases w3 : w = "heard"
        · subst w3; cases B0 <;> cases B1 <;> cases B2 <;> cases B3 <;> cases B4 <;> cases B5 <;> (simp [d_is_letter, b_is_letter, t2, isTy, n0a, nma, n0b, n0c, bob, chc, i0, i1, i2, i3, hlen, dk, hsl, n2s, w0, w1, w2, hw, isin2, -PyD.is_non, Bool.or_false, Bool.and_false, nin346]; try exact fin_0 rfl)
        have w3 : (w == "heard") = false := by simpa using w3
        cases B0 <;> cases B1 <;> cases B2 <;> cases B3 <;> cases B4 <;> cases B5 <;> (simp [d_is_letter, b_is_letter, t2, isTy, n0a, nma, n0b, n0c, bob, chc, i0, i1, i2, i3, hlen, dk, hsl, n2s, w0, w1, w2, w3, hw, isin2, -PyD.is_non, Bool.or_false, Bool.and_false, nin346]; try exact fin_0 rfl)
      | [a, b, c, d], hc, hs, hd =>
        have ca : closed a = true := cl_at hc (by simp)
        have sa : smD a = true := smD_at hs (by simp)
        have da : depD a ≤ 50 := dep_at hd (by simp)
        have cb : closed b = true := cl_at hc (by simp)
        have sb : smD b = true := smD_at hs (by simp)
        have db : depD b ≤ 50 := dep_at hd (by simp)
        have cc : closed c = true := cl_at hc (by simp)
        have sc : smD c = true := smD_at hs (by simp)
        have dc : depD c ≤ 50 := dep_at hd (by simp)
        have cd : closed d = true := cl_at hc (by simp)
        have sd : smD d = true := smD_at hs (by simp)
        have dd : depD d ≤ 50 := dep_at hd (by simp)
        have i0 : ∀ H, index (.tup [.str w, a, b, c, d]) (.int 0) H = some (.str w) := fun H => ixs (n := 0) rfl H
        have i1 : ∀ H, index (.tup [.str w, a, b, c, d]) (.int 1) H = some a := fun H => ixs (n := 1) rfl H
        have i2 : ∀ H, index (.tup [.str w, a, b, c, d]) (.int 2) H = some b := fun H => ixs (n := 2) rfl H
        have i3 : ∀ H, index (.tup [.str w, a, b, c, d]) (.int 3) H = some c := fun H => ixs (n := 3) rfl H
        have i4 : ∀ H, index (.tup [.str w, a, b, c, d]) (.int 4) H = some d := fun H => ixs (n := 4) rfl H
        have hlen : ∀ H, bltf .len [.tup [.str w, a, b, c, d]] H = some (.int 5) := fun _ => rfl
        have hsp : letB mn (.tup [.str w, a, b, c, d]) = false := rfl
        rw [hsp]; clear hsp
        generalize D.tup [.str w, a, b, c, d] = V at *
        (simp [d_is_letter, b_is_letter, t2, isTy, i0, i1, i2, i3, i4, hlen, hw, isin2, -PyD.is_non, Bool.or_false, Bool.and_false, nin346]; try exact fin_0 rfl)
      | [a, b, c, d, e], hc, hs, hd =>
        have ca : closed a = true := cl_at hc (by simp)
        have sa : smD a = true := smD_at hs (by simp)
        have da : depD a ≤ 50 := dep_at hd (by simp)
        have cb : closed b = true := cl_at hc (by simp)
        have sb : smD b = true := smD_at hs (by simp)
        have db : depD b ≤ 50 := dep_at hd (by simp)
        have cc : closed c = true := cl_at hc (by simp)
        have sc : smD c = true := smD_at hs (by simp)
        have dc : depD c ≤ 50 := dep_at hd (by simp)
        have cd : closed d = true := cl_at hc (by simp)
        have sd : smD d = true := smD_at hs (by simp)
        have dd : depD d ≤ 50 := dep_at hd (by simp)
        have ce : closed e = true := cl_at hc (by simp)
        have se : smD e = true := smD_at hs (by simp)
        have de : depD e ≤ 50 := dep_at hd (by simp)
        have i0 : ∀ H, index (.tup [.str w, a, b, c, d, e]) (.int 0) H = some (.str w) := fun H => ixs (n := 0) rfl H
        have i1 : ∀ H, index (.tup [.str w, a, b, c, d, e]) (.int 1) H = some a := fun H => ixs (n := 1) rfl H
        have i2 : ∀ H, index (.tup [.str w, a, b, c, d, e]) (.int 2) H = some b := fun H => ixs (n := 2) rfl H
        have i3 : ∀ H, index (.tup [.str w, a, b, c, d, e]) (.int 3) H = some c := fun H => ixs (n := 3) rfl H
        have i4 : ∀ H, index (.tup [.str w, a, b, c, d, e]) (.int 4) H = some d := fun H => ixs (n := 4) rfl H
        have i5 : ∀ H, index (.tup [.str w, a, b, c, d, e]) (.int 5) H = some e := fun H => ixs (n := 5) rfl H
        have hlen : ∀ H, bltf .len [.tup [.str w, a, b, c, d, e]] H = some (.int 6) := fun _ => rfl
        have dk : ∀ h, callC (tabF L fuel k 13) [.int mn, .tup [.str w, a, b, c, d, e]] h = some (.bl (hw (.str w) "ask" && numB a 0 (some (mn - 1)) && numB b 0 none && choB c && numB d 0 none && numsN e 2), h) := fun h => callV (by simpa [closeds, closed] using hc) (desk6_run (by omega) mn w a b c d e hc hs hd) rfl
        have hsp : letB mn (.tup [.str w, a, b, c, d, e]) = (hw (.str w) "ask" && numB a 0 (some (mn - 1)) && numB b 0 none && choB c && numB d 0 none && numsN e 2) := rfl
        rw [hsp]; clear hsp
        generalize D.tup [.str w, a, b, c, d, e] = V at *
        by_cases w0 : w = "row"
        · subst w0; (simp [d_is_letter, b_is_letter, t2, isTy, i0, i1, i2, i3, i4, i5, hlen, dk, hw, isin2, -PyD.is_non, Bool.or_false, Bool.and_false, nin346]; try exact fin_0 rfl)
        have w0 : (w == "row") = false := by simpa using w0
        by_cases w1 : w = "took"
        · subst w1; (simp [d_is_letter, b_is_letter, t2, isTy, i0, i1, i2, i3, i4, i5, hlen, dk, w0, hw, isin2, -PyD.is_non, Bool.or_false, Bool.and_false, nin346]; try exact fin_0 rfl)
        have w1 : (w == "took") = false := by simpa using w1
        by_cases w2 : w = "seen"
        · subst w2; (simp [d_is_letter, b_is_letter, t2, isTy, i0, i1, i2, i3, i4, i5, hlen, dk, w0, w1, hw, isin2, -PyD.is_non, Bool.or_false, Bool.and_false, nin346]; try exact fin_0 rfl)
        have w2 : (w == "seen") = false := by simpa using w2
        by_cases w3 : w = "heard"
        · subst w3; (simp [d_is_letter, b_is_letter, t2, isTy, i0, i1, i2, i3, i4, i5, hlen, dk, w0, w1, w2, hw, isin2, -PyD.is_non, Bool.or_false, Bool.and_false, nin346]; try exact fin_0 rfl)
        have w3 : (w == "heard") = false := by simpa using w3
        (simp [d_is_letter, b_is_letter, t2, isTy, i0, i1, i2, i3, i4, i5, hlen, dk, w0, w1, w2, w3, hw, isin2, -PyD.is_non, Bool.or_false, Bool.and_false, nin346]; try exact fin_0 rfl)
      | a :: b :: c :: d :: e :: f :: r, hc, hs, hd =>
        have ca : closed a = true := cl_at hc (by simp)
        have sa : smD a = true := smD_at hs (by simp)
        have da : depD a ≤ 50 := dep_at hd (by simp)
        have cb : closed b = true := cl_at hc (by simp)
        have sb : smD b = true := smD_at hs (by simp)
        have db : depD b ≤ 50 := dep_at hd (by simp)
        have cc : closed c = true := cl_at hc (by simp)
        have sc : smD c = true := smD_at hs (by simp)
        have dc : depD c ≤ 50 := dep_at hd (by simp)
        have cd : closed d = true := cl_at hc (by simp)
        have sd : smD d = true := smD_at hs (by simp)
        have dd : depD d ≤ 50 := dep_at hd (by simp)
        have ce : closed e = true := cl_at hc (by simp)
        have se : smD e = true := smD_at hs (by simp)
        have de : depD e ≤ 50 := dep_at hd (by simp)
        have i0 : ∀ H, index (.tup (.str w :: a :: b :: c :: d :: e :: f :: r)) (.int 0) H = some (.str w) := fun H => ixs (n := 0) rfl H
        have i1 : ∀ H, index (.tup (.str w :: a :: b :: c :: d :: e :: f :: r)) (.int 1) H = some a := fun H => ixs (n := 1) rfl H
        have i2 : ∀ H, index (.tup (.str w :: a :: b :: c :: d :: e :: f :: r)) (.int 2) H = some b := fun H => ixs (n := 2) rfl H
        have i3 : ∀ H, index (.tup (.str w :: a :: b :: c :: d :: e :: f :: r)) (.int 3) H = some c := fun H => ixs (n := 3) rfl H
        have i4 : ∀ H, index (.tup (.str w :: a :: b :: c :: d :: e :: f :: r)) (.int 4) H = some d := fun H => ixs (n := 4) rfl H
        have hlen : ∀ H, bltf .len [.tup (.str w :: a :: b :: c :: d :: e :: f :: r)] H = some (.int ((r.length : Nat) + 7 : Int)) := fun H => by rw [len_tup]; simp; omega
        have l3 : (((r.length : Nat) : Int) + 7 == 3) = false := by rw [beq_eq_false_iff_ne]; omega
        have l4 : (((r.length : Nat) : Int) + 7 == 4) = false := by rw [beq_eq_false_iff_ne]; omega
        have l6 : (((r.length : Nat) : Int) + 7 == 6) = false := by rw [beq_eq_false_iff_ne]; omega
        have m4 : decide (((r.length : Nat) : Int) + 7 < 4) = false := by simp; omega
        have m4b : ¬ (((r.length : Nat) : Int) + 7 < 4) := by omega
        have m5 : decide (((r.length : Nat) : Int) + 7 < 5) = false := by simp; omega
        have m5b : ¬ (((r.length : Nat) : Int) + 7 < 5) := by omega
        rw [letB_7]
        generalize ((r.length : Nat) : Int) = LN at *
        generalize D.tup (.str w :: a :: b :: c :: d :: e :: f :: r) = V at *
        (simp [d_is_letter, b_is_letter, t2, isTy, i0, i1, i2, i3, i4, hlen, l3, l4, l6, m4, m4b, m5, m5b, hw, isin2, -PyD.is_non, Bool.or_false, Bool.and_false, nin346]; try exact fin_0 rfl)
  | _ =>
    simp only [isT] at t2
    (simp [d_is_letter, b_is_letter, t2, letB, hw, isin2, -PyD.is_non, Bool.or_false, Bool.and_false, nin346]; try exact fin_0 rfl)
theorem c_letter {k : Nat} (hk : 6 ≤ k) (mn : Int) (v : D) (hc : closed v = true) (hs : smD v = true) (hd : depD v ≤ 50) (h : AH) : callC (tabF L fuel k 15) [.int mn, v] h = some (.bl (letB mn v), h) := callV (by simp [hc, closeds, closed]) (letter_run hk mn v hc hs hd) rfl
end PyD.K55

namespace PyD.K55
open PyD
variable {fuel : Nat}
/-! ### the law's forms -/
theorem hw_ne {x : D} {w : String} (h : ¬ x = .str w) : hw x w = false := by
  cases x with
  | str s =>
    have : s ≠ w := fun z => h (by rw [z])
    simpa [hw] using this
  | _ => rfl
def st (v : D) (n : Int) (w : String) : Bool := match v with
  | .tup (x :: r) => (((r.length : Nat) : Int) + 1 == n) && hw x w
  | _ => false
def at1 : D → D
  | .tup (_ :: y :: _) => y
  | _ => .non
theorem at1_closed {v : D} (h : closed v = true) : closed (at1 v) = true := by
  unfold at1
  split
  · exact cl_at h (by simp)
  · rfl
theorem lnum_run {k : Nat} (hk : 1 ≤ k) (v : D) (hc : closed v = true) (l : Int) (m : Option Int) : tabF L fuel k 27 [v, .int l, vE m] [] = some (.bl (numB v l m), []) := by
  obtain ⟨k, rfl⟩ : ∃ m, k = m + 1 := ⟨k - 1, by omega⟩
  rw [tab_step (d := d__law_is_number) rfl]
  cases v with
  | ref n => simp [closed] at hc
  | fn n => simp [closed] at hc
  | int i =>
    by_cases h1 : l ≤ i
    · cases m with
      | none => simp [d__law_is_number, b__law_is_number, isTy, h1, vE, numB]; exact fin_0 rfl
      | some j => simp [d__law_is_number, b__law_is_number, isTy, h1, vE, numB]; exact fin_0 rfl
    · cases m with
      | none => simp [d__law_is_number, b__law_is_number, isTy, h1, vE, numB]; exact fin_0 rfl
      | some j => simp [d__law_is_number, b__law_is_number, isTy, h1, vE, numB]; exact fin_0 rfl
  | _ => simp [d__law_is_number, b__law_is_number, isTy, numB]; exact fin_0 rfl
theorem l_num {k : Nat} (hk : 1 ≤ k) (v : D) (hc : closed v = true) (l m : Int) (h : AH) : callC (tabF L fuel k 27) [v, .int l, .int m] h = some (.bl (numB v l (some m)), h) := callV (by simp [hc]) (lnum_run hk v hc l (some m)) rfl
theorem l_num0 {k : Nat} (hk : 1 ≤ k) (v : D) (hc : closed v = true) (l : Int) (h : AH) : callC (tabF L fuel k 27) [v, .int l, .non] h = some (.bl (numB v l none), h) := callV (by simp [hc]) (lnum_run hk v hc l none) rfl
theorem ones_closed : ∀ (ds : List D), closeds (ds.map fun _ => D.int 1) = true
  | [] => rfl
  | d :: ds => by simp [closeds, closed, ones_closed ds]
theorem ones_dep : ∀ (ds : List D), depDs (ds.map fun _ => D.int 1) = 0
  | [] => by simp [depDs]
  | d :: ds => by simp [depDs, depD, ones_dep ds]
theorem ones_eq (ds : List D) (H : AH) : cmpop .eq (.lst (ds.map fun _ => D.int 1)) (.lst []) H = some (ds.length == 0) := by
  have h1 : rsv (.lst (ds.map fun _ => D.int 1)) H = .lst (ds.map fun _ => D.int 1) := rfl
  have h2 : rsv (.lst []) H = .lst [] := rfl
  have h3 : closed (.lst (ds.map fun _ => D.int 1)) = true := ones_closed ds
  have h4 : depD (.lst (ds.map fun _ => D.int 1)) ≤ 60 := by simp only [depD, ones_dep]; omega
  have h5 : depD (.lst []) ≤ 60 := by simp [depD, depDs]
  have h6 : closed (.lst []) = true := rfl
  simp only [cmpop, eqO, h1, h2, h3, h6]
  rw [if_pos (by simp only [h4, h5, decide_true, Bool.and_true])]
  cases ds <;> simp [eqD, eqDs]
def nmO (v : D) (m : Option Int) : Bool := match v with
  | .tup ds => (match m with
    | none => true
    | some j => ((ds.length : Int) == j)) && ds.all (fun x => numB x 0 none)
  | _ => false
theorem lnums_run {k : Nat} (hk : 2 ≤ k) (v : D) (hc : closed v = true) (hs : smD v = true) (m : Option Int) : tabF L fuel k 28 [v, vE m] [] = some (.bl (nmO v m), []) := by
  obtain ⟨k, rfl⟩ : ∃ m, k = m + 1 := ⟨k - 1, by omega⟩
  rw [tab_step (d := d__law_are_numbers) rfl]
  cases v with
  | ref n => simp [closed] at hc
  | fn n => simp [closed] at hc
  | tup ds =>
    have hp : nmO (.tup ds) m = ((match m with
      | none => true
      | some j => ((ds.length : Int) == j)) && ds.all (fun x => numB x 0 none)) := rfl
    have hds : closeds ds = true := hc
    have hln := (smD_t hs).1
    have cc := compL_map (σ := [some (.tup ds), some (vE m), none]) (tg := .v 2) (len := ds.length) (c := tstO (tabF L fuel k) (.so (.not (.call 27 (.cons (.var 2) (.cons (.int 0) (.cons .non .nil))))))) (e := ev (tabF L fuel k) (.int 1)) (h := []) (fun x => !numB x 0 none) (fun _ => .int 1) ds 0 (fun x hx => by
      have c1 := fun h => l_num0 (fuel := fuel) (k := k) (by omega) x (closeds_all' hds x hx) 0 h
      exact ⟨_, rfl, by simp [c1, truth], fun _ => by simp⟩)
    have hlen := filter_len (fun x => numB x 0 none) ds
    have hlim : ds.length ≤ lim := by simp [lim]; omega
    have hit : ∀ H, items (.tup ds) H = some ds := fun H => rfl
    have hl : ∀ H, bltf .len [.tup ds] H = some (.int ds.length) := fun H => rfl
    have hq := fun H => ones_eq (ds.filter fun x => !numB x 0 none) H
    rw [hlen] at hq
    have ht : ∀ H, isTyH (.tup ds) .tuple H = some true := fun H => rfl
    rw [hp]
    have hr : rfOf (.tup ds) = none := rfl
    generalize hFL : ds.filter (fun x => !numB x 0 none) = FL at *
    generalize (ds.all fun x => numB x 0 none) = A at *
    generalize D.tup ds = V at *
    cases m with
    | none =>
      simp only [vE] at cc
      simp [d__law_are_numbers, b__law_are_numbers, vE, hit, ht, hl, kComp_ap, hlim, hr]
      rw [cc]
      simp [hq]
      exact fin_0 rfl
    | some j =>
      simp only [vE] at cc
      cases hm : ((ds.length : Int) == j) with
      | false =>
        simp [d__law_are_numbers, b__law_are_numbers, vE, hit, ht, hl, hm]
        exact fin_0 rfl
      | true =>
        simp [d__law_are_numbers, b__law_are_numbers, vE, hit, ht, hl, kComp_ap, hlim, hm, hr]
        rw [cc]
        simp [hq]
        exact fin_0 rfl
  | _ => cases m <;> (simp [d__law_are_numbers, b__law_are_numbers, isTy, nmO]; exact fin_0 rfl)
theorem l_numsT {k : Nat} (hk : 2 ≤ k) (v : D) (hc : closed v = true) (hs : smD v = true) (h : AH) : callC (tabF L fuel k 28) [v, .non] h = some (.bl (isT v && numsT v), h) := by
  rw [show (isT v && numsT v) = nmO v none from by cases v <;> simp [isT, numsT, nmO]]
  exact callV (by simp [hc, closeds, closed]) (lnums_run hk v hc hs none) rfl
theorem l_nums2 {k : Nat} (hk : 2 ≤ k) (v : D) (hc : closed v = true) (hs : smD v = true) (h : AH) : callC (tabF L fuel k 28) [v, .int 2] h = some (.bl (numsN v 2), h) := by
  rw [show numsN v 2 = nmO v (some 2) from by cases v <;> simp [numsN, nmO]]
  exact callV (by simp [hc, closeds, closed]) (lnums_run hk v hc hs (some 2)) rfl
theorem st_run {k : Nat} (hk : 1 ≤ k) (v : D) (hc : closed v = true) (n : Int) (hn : 1 ≤ n) (w : String) : tabF L fuel k 29 [v, .int n, .str w] [] = some (.bl (st v n w), []) := by
  obtain ⟨k, rfl⟩ : ∃ m, k = m + 1 := ⟨k - 1, by omega⟩
  rw [tab_step (d := d__law_starts) rfl]
  cases v with
  | ref n => simp [closed] at hc
  | fn n => simp [closed] at hc
  | tup ds =>
    cases ds with
    | nil =>
      have : ((0 : Int) == n) = false := by rw [beq_eq_false_iff_ne]; omega
      (simp [d__law_starts, b__law_starts, isTy, st, this]; try exact fin_0 rfl)
    | cons x r =>
      have hl : ∀ H, bltf .len [.tup (x :: r)] H = some (.int ((r.length : Nat) + 1 : Int)) := fun H => by rw [len_tup]; simp
      have i0 : ∀ H, index (.tup (x :: r)) (.int 0) H = some x := fun H => ixs (n := 0) rfl H
      have cx : closed x = true := cl_at hc (by simp)
      have hx := fun H => isty_s cx H
      have ht : ∀ H, isTyH (.tup (x :: r)) .tuple H = some true := fun H => rfl
      have he : isS x = true → ∀ H, cmpop .eq x (.str w) H = some (hw x w) := fun z H => by
        cases x with
        | str s => rfl
        | _ => simp [isS] at z
      have hf : isS x = false → hw x w = false := fun z => by
        cases x with
        | str s => simp [isS] at z
        | _ => rfl
      rw [show st (.tup (x :: r)) n w = ((((r.length : Nat) : Int) + 1 == n) && hw x w) from rfl]
      generalize D.tup (x :: r) = V at *
      generalize hw x w = B at *
      cases hA : (((r.length : Nat) : Int) + 1 == n) with
      | false => (simp [d__law_starts, b__law_starts, hl, ht, hA]; try exact fin_0 rfl)
      | true =>
        cases hs : isS x with
        | false =>
          rw [hs] at hx
          rw [hf hs]
          (simp [d__law_starts, b__law_starts, hl, ht, hA, i0, hx]; try exact fin_0 rfl)
        | true =>
          rw [hs] at hx
          have he := he hs
          (simp [d__law_starts, b__law_starts, hl, ht, hA, i0, hx, he]; try exact fin_0 rfl)
  | _ => (simp [d__law_starts, b__law_starts, isTy, st]; try exact fin_0 rfl)
theorem l_st {k : Nat} (hk : 1 ≤ k) (v : D) (hc : closed v = true) (n : Int) (hn : 1 ≤ n) (w : String) (h : AH) : callC (tabF L fuel k 29) [v, .int n, .str w] h = some (.bl (st v n w), h) := callV (by simp [hc, closeds, closed]) (st_run hk v hc n hn w) rfl
theorem st_at1 {v : D} {w : String} (z : st v 2 w = true) (H : AH) : index v (.int 1) H = some (at1 v) := by
  unfold st at z
  split at z
  · rename_i x r
    simp only [Bool.and_eq_true, beq_iff_eq] at z
    match r, z with
    | [y], z => exact ixs (n := 1) rfl H
    | [], z => simp at z
    | _ :: _ :: _, z => simp at z; omega
  · simp at z
theorem sil_eq (v : D) : (choB v && hw (hd0 v) "pass") = (st v 2 "pass" && numB (at1 v) 0 none) := by
  rw [cho_eq]
  cases v with
  | tup ds =>
    match ds with
    | [] => rfl
    | [x] => simp [choH, st]
    | [x, a] =>
      simp only [choH, st, hd0, at1]
      by_cases h : x = .str "pass"
      · subst h; simp [hw]
      · simp [hw_ne h]
    | [x, a, b] =>
      simp only [choH, st, hd0, at1]
      by_cases h : x = .str "pass"
      · subst h; simp [hw]
      · simp [hw_ne h]
    | x :: a :: b :: c :: r =>
      simp [choH, st, hd0, at1]
      omega
  | _ => rfl

theorem l_choice_run {k : Nat} (hk : 2 ≤ k) (v : D) (hc : closed v = true) (hs : smD v = true) (hd : depD v ≤ 50) : tabF L fuel k 30 [v] [] = some (.bl (choH v), []) := by
  obtain ⟨k, rfl⟩ : ∃ m, k = m + 1 := ⟨k - 1, by omega⟩
  rw [tab_step (d := d__law_is_choice) rfl]
  have hst : ∀ (n : Int) (hn : (1 ≤ n) = True) w H, callC (tabF L fuel k 29) [v, .int n, .str w] H = some (.bl (st v n w), H) := fun n hn w H => l_st (fuel := fuel) (k := k) (by omega) v hc n (by simpa using hn) w H
  have ht := fun H => isty_t hc H
  cases v with
  | ref n => simp [closed] at hc
  | fn n => simp [closed] at hc
  | tup ds =>
    match ds, hc, hs, hd with
    | [], hc, hs, hd => (simp [d__law_is_choice, b__law_is_choice, hst, ht, isT, st, choH_nil, hw, -PyD.is_non, Bool.or_false, Bool.and_false]; try exact fin_0 rfl)
    | [x], hc, hs, hd =>
      have cx : closed x = true := cl_at hc (by simp)
      have i0 : ∀ H, index (.tup [x]) (.int 0) H = some x := fun H => ixs (n := 0) rfl H
      have hlen : ∀ H, bltf .len [.tup [x]] H = some (.int 1) := fun _ => rfl
      have hst : ∀ (n : Int) (hn : (1 ≤ n) = True) w H, callC (tabF L fuel k 29) [.tup [x], .int n, .str w] H = some (.bl ((((1 : Int)) == n) && hw x w), H) := hst
      have hsp : choH (.tup [x]) = false := rfl
      rw [hsp]; clear hsp
      simp only [isT] at ht
      generalize D.tup [x] = V at *
      (simp [d__law_is_choice, b__law_is_choice, hst, ht, i0, hlen, -PyD.is_non, Bool.or_false, Bool.and_false]; try exact fin_0 rfl)
    | [x, a], hc, hs, hd =>
      have cx : closed x = true := cl_at hc (by simp)
      have ca : closed a = true := cl_at hc (by simp)
      have sa : smD a = true := smD_at hs (by simp)
      have da : depD a ≤ 50 := dep_at hd (by simp)
      have n0a : ∀ h, callC (tabF L fuel k 27) [a, .int 0, .non] h = some (.bl (numB a 0 none), h) := fun h => l_num0 (fuel := fuel) (k := k) (by omega) a ca 0 h
      have i0 : ∀ H, index (.tup [x, a]) (.int 0) H = some x := fun H => ixs (n := 0) rfl H
      have i1 : ∀ H, index (.tup [x, a]) (.int 1) H = some a := fun H => ixs (n := 1) rfl H
      have hlen : ∀ H, bltf .len [.tup [x, a]] H = some (.int 2) := fun _ => rfl
      have hst : ∀ (n : Int) (hn : (1 ≤ n) = True) w H, callC (tabF L fuel k 29) [.tup [x, a], .int n, .str w] H = some (.bl ((((2 : Int)) == n) && hw x w), H) := hst
      have hsp : choH (.tup [x, a]) = ((hw x "call" || hw x "pass") && numB a 0 none) := rfl
      rw [hsp]; clear hsp
      simp only [isT] at ht
      generalize D.tup [x, a] = V at *
      generalize numB a 0 none = B0 at *
      by_cases w0 : x = .str "call"
      · subst w0
        cases B0 with
        | false => (simp [d__law_is_choice, b__law_is_choice, hst, ht, n0a, i0, i1, hlen, hw, -PyD.is_non, Bool.or_false, Bool.and_false]; try exact fin_0 rfl)
        | true =>
          (simp [d__law_is_choice, b__law_is_choice, hst, ht, n0a, i0, i1, hlen, hw, -PyD.is_non, Bool.or_false, Bool.and_false]; try exact fin_0 rfl)
      have w0 := hw_ne w0
      by_cases w1 : x = .str "pass"
      · subst w1
        cases B0 with
        | false => (simp [d__law_is_choice, b__law_is_choice, hst, ht, n0a, i0, i1, hlen, w0, hw, -PyD.is_non, Bool.or_false, Bool.and_false]; try exact fin_0 rfl)
        | true =>
          (simp [d__law_is_choice, b__law_is_choice, hst, ht, n0a, i0, i1, hlen, w0, hw, -PyD.is_non, Bool.or_false, Bool.and_false]; try exact fin_0 rfl)
      have w1 := hw_ne w1
      (simp [d__law_is_choice, b__law_is_choice, hst, ht, n0a, i0, i1, hlen, w0, w1, -PyD.is_non, Bool.or_false, Bool.and_false]; try exact fin_0 rfl)
    | [x, a, b], hc, hs, hd =>
      have cx : closed x = true := cl_at hc (by simp)
      have ca : closed a = true := cl_at hc (by simp)
      have sa : smD a = true := smD_at hs (by simp)
      have da : depD a ≤ 50 := dep_at hd (by simp)
      have cb : closed b = true := cl_at hc (by simp)
      have sb : smD b = true := smD_at hs (by simp)
      have db : depD b ≤ 50 := dep_at hd (by simp)
      have n0a : ∀ h, callC (tabF L fuel k 27) [a, .int 0, .non] h = some (.bl (numB a 0 none), h) := fun h => l_num0 (fuel := fuel) (k := k) (by omega) a ca 0 h
      have inb : ∀ h, cmpop .is b .non h = some (isN b) := fun h => is_non b cb h
      have n0b : ∀ h, callC (tabF L fuel k 27) [b, .int 0, .non] h = some (.bl (numB b 0 none), h) := fun h => l_num0 (fuel := fuel) (k := k) (by omega) b cb 0 h
      have itb : ∀ h, isTyH b .tuple h = some (isT b) := fun h => isty_t cb h
      have i0 : ∀ H, index (.tup [x, a, b]) (.int 0) H = some x := fun H => ixs (n := 0) rfl H
      have i1 : ∀ H, index (.tup [x, a, b]) (.int 1) H = some a := fun H => ixs (n := 1) rfl H
      have i2 : ∀ H, index (.tup [x, a, b]) (.int 2) H = some b := fun H => ixs (n := 2) rfl H
      have hlen : ∀ H, bltf .len [.tup [x, a, b]] H = some (.int 3) := fun _ => rfl
      have hst : ∀ (n : Int) (hn : (1 ≤ n) = True) w H, callC (tabF L fuel k 29) [.tup [x, a, b], .int n, .str w] H = some (.bl ((((3 : Int)) == n) && hw x w), H) := hst
      have hsp : choH (.tup [x, a, b]) = (if hw x "do" then numB a 0 none && (isN b || numB b 0 none) else if hw x "back" then numB a 0 none && isT b else hw x "change" && isT b) := rfl
      rw [hsp]; clear hsp
      simp only [isT] at ht
      generalize D.tup [x, a, b] = V at *
      generalize numB a 0 none = B0 at *
      generalize isN b = B1 at *
      generalize numB b 0 none = B2 at *
      generalize isT b = B3 at *
      by_cases w0 : x = .str "do"
      · subst w0
        cases B0 with
        | false => (simp [d__law_is_choice, b__law_is_choice, hst, ht, n0a, inb, n0b, itb, i0, i1, i2, hlen, hw, -PyD.is_non, Bool.or_false, Bool.and_false]; try exact fin_0 rfl)
        | true =>
          cases B1 with
          | false => (simp [d__law_is_choice, b__law_is_choice, hst, ht, n0a, inb, n0b, itb, i0, i1, i2, hlen, hw, -PyD.is_non, Bool.or_false, Bool.and_false]; try exact fin_0 rfl)
          | true =>
            cases B2 with
            | false => (simp [d__law_is_choice, b__law_is_choice, hst, ht, n0a, inb, n0b, itb, i0, i1, i2, hlen, hw, -PyD.is_non, Bool.or_false, Bool.and_false]; try exact fin_0 rfl)
            | true =>
              (simp [d__law_is_choice, b__law_is_choice, hst, ht, n0a, inb, n0b, itb, i0, i1, i2, hlen, hw, -PyD.is_non, Bool.or_false, Bool.and_false]; try exact fin_0 rfl)
      have w0 := hw_ne w0
      by_cases w1 : x = .str "change"
      · subst w1
        (simp [d__law_is_choice, b__law_is_choice, hst, ht, n0a, inb, n0b, itb, i0, i1, i2, hlen, w0, hw, -PyD.is_non, Bool.or_false, Bool.and_false]; try exact fin_0 rfl)
      have w1 := hw_ne w1
      by_cases w2 : x = .str "back"
      · subst w2
        cases B0 with
        | false => (simp [d__law_is_choice, b__law_is_choice, hst, ht, n0a, inb, n0b, itb, i0, i1, i2, hlen, w0, w1, hw, -PyD.is_non, Bool.or_false, Bool.and_false]; try exact fin_0 rfl)
        | true =>
          (simp [d__law_is_choice, b__law_is_choice, hst, ht, n0a, inb, n0b, itb, i0, i1, i2, hlen, w0, w1, hw, -PyD.is_non, Bool.or_false, Bool.and_false]; try exact fin_0 rfl)
      have w2 := hw_ne w2
      (simp [d__law_is_choice, b__law_is_choice, hst, ht, n0a, inb, n0b, itb, i0, i1, i2, hlen, w0, w1, w2, -PyD.is_non, Bool.or_false, Bool.and_false]; try exact fin_0 rfl)
    | [x, a, b, c], hc, hs, hd =>
      have cx : closed x = true := cl_at hc (by simp)
      have ca : closed a = true := cl_at hc (by simp)
      have sa : smD a = true := smD_at hs (by simp)
      have da : depD a ≤ 50 := dep_at hd (by simp)
      have cb : closed b = true := cl_at hc (by simp)
      have sb : smD b = true := smD_at hs (by simp)
      have db : depD b ≤ 50 := dep_at hd (by simp)
      have cc : closed c = true := cl_at hc (by simp)
      have sc : smD c = true := smD_at hs (by simp)
      have dc : depD c ≤ 50 := dep_at hd (by simp)
      have i0 : ∀ H, index (.tup [x, a, b, c]) (.int 0) H = some x := fun H => ixs (n := 0) rfl H
      have i1 : ∀ H, index (.tup [x, a, b, c]) (.int 1) H = some a := fun H => ixs (n := 1) rfl H
      have i2 : ∀ H, index (.tup [x, a, b, c]) (.int 2) H = some b := fun H => ixs (n := 2) rfl H
      have i3 : ∀ H, index (.tup [x, a, b, c]) (.int 3) H = some c := fun H => ixs (n := 3) rfl H
      have hlen : ∀ H, bltf .len [.tup [x, a, b, c]] H = some (.int 4) := fun _ => rfl
      have hst : ∀ (n : Int) (hn : (1 ≤ n) = True) w H, callC (tabF L fuel k 29) [.tup [x, a, b, c], .int n, .str w] H = some (.bl ((((4 : Int)) == n) && hw x w), H) := hst
      have hsp : choH (.tup [x, a, b, c]) = false := rfl
      rw [hsp]; clear hsp
      simp only [isT] at ht
      generalize D.tup [x, a, b, c] = V at *
      (simp [d__law_is_choice, b__law_is_choice, hst, ht, i0, i1, i2, i3, hlen, -PyD.is_non, Bool.or_false, Bool.and_false]; try exact fin_0 rfl)
    | [x, a, b, c, d], hc, hs, hd =>
      have cx : closed x = true := cl_at hc (by simp)
      have ca : closed a = true := cl_at hc (by simp)
      have sa : smD a = true := smD_at hs (by simp)
      have da : depD a ≤ 50 := dep_at hd (by simp)
      have cb : closed b = true := cl_at hc (by simp)
      have sb : smD b = true := smD_at hs (by simp)
      have db : depD b ≤ 50 := dep_at hd (by simp)
      have cc : closed c = true := cl_at hc (by simp)
      have sc : smD c = true := smD_at hs (by simp)
      have dc : depD c ≤ 50 := dep_at hd (by simp)
      have cd : closed d = true := cl_at hc (by simp)
      have sd : smD d = true := smD_at hs (by simp)
      have dd : depD d ≤ 50 := dep_at hd (by simp)
      have i0 : ∀ H, index (.tup [x, a, b, c, d]) (.int 0) H = some x := fun H => ixs (n := 0) rfl H
      have i1 : ∀ H, index (.tup [x, a, b, c, d]) (.int 1) H = some a := fun H => ixs (n := 1) rfl H
      have i2 : ∀ H, index (.tup [x, a, b, c, d]) (.int 2) H = some b := fun H => ixs (n := 2) rfl H
      have i3 : ∀ H, index (.tup [x, a, b, c, d]) (.int 3) H = some c := fun H => ixs (n := 3) rfl H
      have i4 : ∀ H, index (.tup [x, a, b, c, d]) (.int 4) H = some d := fun H => ixs (n := 4) rfl H
      have hlen : ∀ H, bltf .len [.tup [x, a, b, c, d]] H = some (.int 5) := fun _ => rfl
      have hst : ∀ (n : Int) (hn : (1 ≤ n) = True) w H, callC (tabF L fuel k 29) [.tup [x, a, b, c, d], .int n, .str w] H = some (.bl ((((5 : Int)) == n) && hw x w), H) := hst
      have hsp : choH (.tup [x, a, b, c, d]) = false := rfl
      rw [hsp]; clear hsp
      simp only [isT] at ht
      generalize D.tup [x, a, b, c, d] = V at *
      (simp [d__law_is_choice, b__law_is_choice, hst, ht, i0, i1, i2, i3, i4, hlen, -PyD.is_non, Bool.or_false, Bool.and_false]; try exact fin_0 rfl)
    | [x, a, b, c, d, e], hc, hs, hd =>
      have cx : closed x = true := cl_at hc (by simp)
      have ca : closed a = true := cl_at hc (by simp)
      have sa : smD a = true := smD_at hs (by simp)
      have da : depD a ≤ 50 := dep_at hd (by simp)
      have cb : closed b = true := cl_at hc (by simp)
      have sb : smD b = true := smD_at hs (by simp)
      have db : depD b ≤ 50 := dep_at hd (by simp)
      have cc : closed c = true := cl_at hc (by simp)
      have sc : smD c = true := smD_at hs (by simp)
      have dc : depD c ≤ 50 := dep_at hd (by simp)
      have cd : closed d = true := cl_at hc (by simp)
      have sd : smD d = true := smD_at hs (by simp)
      have dd : depD d ≤ 50 := dep_at hd (by simp)
      have ce : closed e = true := cl_at hc (by simp)
      have se : smD e = true := smD_at hs (by simp)
      have de : depD e ≤ 50 := dep_at hd (by simp)
      have i0 : ∀ H, index (.tup [x, a, b, c, d, e]) (.int 0) H = some x := fun H => ixs (n := 0) rfl H
      have i1 : ∀ H, index (.tup [x, a, b, c, d, e]) (.int 1) H = some a := fun H => ixs (n := 1) rfl H
      have i2 : ∀ H, index (.tup [x, a, b, c, d, e]) (.int 2) H = some b := fun H => ixs (n := 2) rfl H
      have i3 : ∀ H, index (.tup [x, a, b, c, d, e]) (.int 3) H = some c := fun H => ixs (n := 3) rfl H
      have i4 : ∀ H, index (.tup [x, a, b, c, d, e]) (.int 4) H = some d := fun H => ixs (n := 4) rfl H
      have i5 : ∀ H, index (.tup [x, a, b, c, d, e]) (.int 5) H = some e := fun H => ixs (n := 5) rfl H
      have hlen : ∀ H, bltf .len [.tup [x, a, b, c, d, e]] H = some (.int 6) := fun _ => rfl
      have hst : ∀ (n : Int) (hn : (1 ≤ n) = True) w H, callC (tabF L fuel k 29) [.tup [x, a, b, c, d, e], .int n, .str w] H = some (.bl ((((6 : Int)) == n) && hw x w), H) := hst
      have hsp : choH (.tup [x, a, b, c, d, e]) = false := rfl
      rw [hsp]; clear hsp
      simp only [isT] at ht
      generalize D.tup [x, a, b, c, d, e] = V at *
      (simp [d__law_is_choice, b__law_is_choice, hst, ht, i0, i1, i2, i3, i4, i5, hlen, -PyD.is_non, Bool.or_false, Bool.and_false]; try exact fin_0 rfl)
    | x :: a :: b :: c :: d :: e :: f :: r, hc, hs, hd =>
      have ca : closed a = true := cl_at hc (by simp)
      have sa : smD a = true := smD_at hs (by simp)
      have da : depD a ≤ 50 := dep_at hd (by simp)
      have cb : closed b = true := cl_at hc (by simp)
      have sb : smD b = true := smD_at hs (by simp)
      have db : depD b ≤ 50 := dep_at hd (by simp)
      have cc : closed c = true := cl_at hc (by simp)
      have sc : smD c = true := smD_at hs (by simp)
      have dc : depD c ≤ 50 := dep_at hd (by simp)
      have cd : closed d = true := cl_at hc (by simp)
      have sd : smD d = true := smD_at hs (by simp)
      have dd : depD d ≤ 50 := dep_at hd (by simp)
      have ce : closed e = true := cl_at hc (by simp)
      have se : smD e = true := smD_at hs (by simp)
      have de : depD e ≤ 50 := dep_at hd (by simp)
      have i0 : ∀ H, index (.tup (x :: a :: b :: c :: d :: e :: f :: r)) (.int 0) H = some x := fun H => ixs (n := 0) rfl H
      have i1 : ∀ H, index (.tup (x :: a :: b :: c :: d :: e :: f :: r)) (.int 1) H = some a := fun H => ixs (n := 1) rfl H
      have i2 : ∀ H, index (.tup (x :: a :: b :: c :: d :: e :: f :: r)) (.int 2) H = some b := fun H => ixs (n := 2) rfl H
      have i3 : ∀ H, index (.tup (x :: a :: b :: c :: d :: e :: f :: r)) (.int 3) H = some c := fun H => ixs (n := 3) rfl H
      have i4 : ∀ H, index (.tup (x :: a :: b :: c :: d :: e :: f :: r)) (.int 4) H = some d := fun H => ixs (n := 4) rfl H
      have hlen : ∀ H, bltf .len [.tup (x :: a :: b :: c :: d :: e :: f :: r)] H = some (.int ((r.length : Nat) + 7 : Int)) := fun H => by rw [len_tup]; simp; omega
      have hst2 : ∀ (n : Int) (hn : (1 ≤ n) = True) (h2 : (n ≤ 6) = True) w H, callC (tabF L fuel k 29) [.tup (x :: a :: b :: c :: d :: e :: f :: r), .int n, .str w] H = some (.bl false, H) := fun n hn h2 w H => by
        rw [hst n hn w H, show st (.tup (x :: a :: b :: c :: d :: e :: f :: r)) n w = false from by simp only [st, Bool.and_eq_false_iff, beq_eq_false_iff_ne]; left; simp at h2 ⊢; omega]
      have m3 : decide (((r.length : Nat) : Int) + 7 < 3) = false := by simp; omega
      have m3b : ¬ (((r.length : Nat) : Int) + 7 < 3) := by omega
      have m4 : decide (((r.length : Nat) : Int) + 7 < 4) = false := by simp; omega
      have m4b : ¬ (((r.length : Nat) : Int) + 7 < 4) := by omega
      have m5 : decide (((r.length : Nat) : Int) + 7 < 5) = false := by simp; omega
      have m5b : ¬ (((r.length : Nat) : Int) + 7 < 5) := by omega
      rw [choH_7]
      generalize ((r.length : Nat) : Int) = LN at *
      clear hst
      simp only [isT] at ht
      generalize D.tup (x :: a :: b :: c :: d :: e :: f :: r) = V at *
      (simp [d__law_is_choice, b__law_is_choice, ht, i0, i1, i2, i3, i4, hlen, hst2, m3, m3b, m4, m4b, m5, m5b, -PyD.is_non, Bool.or_false, Bool.and_false]; try exact fin_0 rfl)
  | _ =>
    simp only [isT] at ht
    (simp [d__law_is_choice, b__law_is_choice, hst, ht, st, choH, hw, -PyD.is_non, Bool.or_false, Bool.and_false]; try exact fin_0 rfl)
theorem l_choice {k : Nat} (hk : 2 ≤ k) (v : D) (hc : closed v = true) (hs : smD v = true) (hd : depD v ≤ 50) (h : AH) : callC (tabF L fuel k 30) [v] h = some (.bl (choH v), h) := callV (by simp [hc, closeds, closed]) (l_choice_run hk v hc hs hd) rfl
theorem l_choice2 {k : Nat} (hk : 2 ≤ k) (v : D) (hc : closed v = true) (hs : smD v = true) (hd : depD v ≤ 50) (h : AH) : callC (tabF L fuel k 30) [v] h = some (.bl (choB v), h) := by
  rw [cho_eq]
  exact l_choice hk v hc hs hd h
def lbT : Ss := (.cons (.ite (.call 29 (.cons (.var 2) (.cons (.int 4) (.cons (.str "do") .nil))))
 (.cons (.ret (.bop true (.cons (.call 30 (.cons (.slc (.var 2) .no (.so (.int 3))) .nil)) (.cons (.call 28 (.cons (.idx (.var 2) (.int 3)) (.cons .non .nil))) .nil))))
 .nil)
 .nil)
 (.cons (.ret (.bop true (.cons (.bop false (.cons (.call 29 (.cons (.var 2) (.cons (.int 2) (.cons (.str "call") .nil)))) (.cons (.call 29 (.cons (.var 2) (.cons (.int 2) (.cons (.str "pass") .nil)))) .nil))) (.cons (.call 27 (.cons (.idx (.var 2) (.int 1)) (.cons (.int 0) (.cons .non .nil)))) .nil))))
 .nil))
def lbW : Ss :=
 (.cons (.ite (.call 29 (.cons (.var 1) (.cons (.int 1) (.cons (.str "dawn") .nil))))
 (.cons (.ret (.bl true))
 .nil)
 .nil)
 (.cons (.ite (.call 29 (.cons (.var 1) (.cons (.int 2) (.cons (.str "silent") .nil))))
 (.cons (.ret (.bop true (.cons (.call 29 (.cons (.idx (.var 1) (.int 1)) (.cons (.int 2) (.cons (.str "pass") .nil)))) (.cons (.call 27 (.cons (.idx (.idx (.var 1) (.int 1)) (.int 1)) (.cons (.int 0) (.cons .non .nil)))) .nil))))
 .nil)
 .nil)
 (.cons (.ite (.bop false (.cons (.not (.isi (.var 1) .tuple)) (.cons (.cmp .lt (.blt .len (.cons (.var 1) .nil)) (.int 3)) (.cons (.not (.call 27 (.cons (.idx (.var 1) (.int 1)) (.cons (.int 0) (.cons (.bin .sub (.var 0) (.int 1)) .nil))))) (.cons (.not (.call 27 (.cons (.idx (.var 1) (.int 2)) (.cons (.int 0) (.cons .non .nil))))) .nil)))))
 (.cons (.ret (.bl false))
 .nil)
 .nil)
 (.cons (.ite (.call 29 (.cons (.var 1) (.cons (.int 3) (.cons (.str "void") .nil))))
 (.cons (.ret (.bl true))
 .nil)
 .nil)
 (.cons (.ite (.call 29 (.cons (.var 1) (.cons (.int 4) (.cons (.str "done") .nil))))
 (.cons (.set 2 (.idx (.var 1) (.int 3)))
lbT)
 .nil)
 (.cons (.ite (.bop false (.cons (.cmp .lt (.blt .len (.cons (.var 1) .nil)) (.int 5)) (.cons (.not (.isi (.idx (.var 1) (.int 4)) .str)) (.cons (.cmp .notin (.idx (.var 1) (.int 4)) (.tup (.cons (.str "done") (.cons (.str "void") .nil)))) .nil))))
 (.cons (.ret (.bl false))
 .nil)
 .nil)
 (.cons (.ret (.bop false (.cons (.call 29 (.cons (.var 1) (.cons (.int 5) (.cons (.str "change") .nil)))) (.cons (.bop true (.cons (.call 29 (.cons (.var 1) (.cons (.int 6) (.cons (.str "back") .nil)))) (.cons (.call 27 (.cons (.idx (.var 1) (.int 3)) (.cons (.int 0) (.cons .non .nil)))) (.cons (.call 28 (.cons (.idx (.var 1) (.int 5)) (.cons .non .nil))) .nil)))) .nil))))
 .nil)))))))
theorem lbW_eq : b__law_is_body = lbW := rfl
theorem smDs_take : ∀ {ds : List D} (n : Nat), smDs ds = true → smDs (ds.take n) = true
  | ds, 0, h => rfl
  | [], n + 1, h => rfl
  | d :: ds, n + 1, h => by
    simp only [smDs, Bool.and_eq_true, List.take_succ_cons] at h ⊢
    exact ⟨h.1, smDs_take (ds := ds) n h.2⟩
theorem sm_take {ds : List D} (n : Nat) (h : smD (.tup ds) = true) : smD (.tup (ds.take n)) = true := by
  have h1 := smD_t h
  simp only [smD, Bool.and_eq_true, decide_eq_true_eq]
  exact ⟨by simp; omega, smDs_take n h1.2⟩
theorem dep_take {ds : List D} (n : Nat) (h : depD (.tup ds) ≤ 50) : depD (.tup (ds.take n)) ≤ 50 := by
  have := depDs_take ds n
  simp only [depD] at h ⊢
  omega
theorem lbT_run {k : Nat} (hk : 2 ≤ k) (σ0 σ1 : Option D) (v : D) (hc : closed v = true) (hs : smD v = true) (hd : depD v ≤ 50) : exs (tabF L fuel k) fuel lbT [σ0, σ1, some v] [] = some (.rt (.bl (seenB v)), [σ0, σ1, some v], []) := by
  have hst : ∀ (n : Int) (hn : (1 ≤ n) = True) w H, callC (tabF L fuel k 29) [v, .int n, .str w] H = some (.bl (st v n w), H) := fun n hn w H => l_st (fuel := fuel) (k := k) (by omega) v hc n (by simpa using hn) w H
  cases v with
  | ref n => simp [closed] at hc
  | fn n => simp [closed] at hc
  | tup ds =>
    match ds, hc, hs, hd with
    | [], hc, hs, hd => simp [lbT, hst, st, seenB_nil]
    | [x], hc, hs, hd =>
      have cx : closed x = true := cl_at hc (by simp)
      have i0 : ∀ H, index (.tup [x]) (.int 0) H = some x := fun H => ixs (n := 0) rfl H
      have hst : ∀ (n : Int) (hn : (1 ≤ n) = True) w H, callC (tabF L fuel k 29) [.tup [x], .int n, .str w] H = some (.bl ((((1 : Int)) == n) && hw x w), H) := hst
      have hsp : seenB (.tup [x]) = false := rfl
      rw [hsp]; clear hsp
      generalize D.tup [x] = V at *
      (simp [lbT, hst, i0, -PyD.is_non])
    | [x, a], hc, hs, hd =>
      have cx : closed x = true := cl_at hc (by simp)
      have ca : closed a = true := cl_at hc (by simp)
      have sa : smD a = true := smD_at hs (by simp)
      have da : depD a ≤ 50 := dep_at hd (by simp)
      have n0a : ∀ h, callC (tabF L fuel k 27) [a, .int 0, .non] h = some (.bl (numB a 0 none), h) := fun h => l_num0 (fuel := fuel) (k := k) (by omega) a ca 0 h
      have i0 : ∀ H, index (.tup [x, a]) (.int 0) H = some x := fun H => ixs (n := 0) rfl H
      have i1 : ∀ H, index (.tup [x, a]) (.int 1) H = some a := fun H => ixs (n := 1) rfl H
      have hst : ∀ (n : Int) (hn : (1 ≤ n) = True) w H, callC (tabF L fuel k 29) [.tup [x, a], .int n, .str w] H = some (.bl ((((2 : Int)) == n) && hw x w), H) := hst
      have hsp : seenB (.tup [x, a]) = ((hw x "call" || hw x "pass") && numB a 0 none) := rfl
      rw [hsp]; clear hsp
      generalize D.tup [x, a] = V at *
      generalize numB a 0 none = B0 at *
      by_cases w0 : x = .str "call"
      · subst w0; cases B0 <;> (simp [lbT, hst, n0a, i0, i1, hw, -PyD.is_non])
      have w0 := hw_ne w0
      by_cases w1 : x = .str "pass"
      · subst w1; cases B0 <;> (simp [lbT, hst, n0a, i0, i1, w0, hw, -PyD.is_non])
      have w1 := hw_ne w1
      cases B0 <;> (simp [lbT, hst, n0a, i0, i1, w0, w1, -PyD.is_non])
    | [x, a, b], hc, hs, hd =>
      have cx : closed x = true := cl_at hc (by simp)
      have ca : closed a = true := cl_at hc (by simp)
      have sa : smD a = true := smD_at hs (by simp)
      have da : depD a ≤ 50 := dep_at hd (by simp)
      have cb : closed b = true := cl_at hc (by simp)
      have sb : smD b = true := smD_at hs (by simp)
      have db : depD b ≤ 50 := dep_at hd (by simp)
      have i0 : ∀ H, index (.tup [x, a, b]) (.int 0) H = some x := fun H => ixs (n := 0) rfl H
      have i1 : ∀ H, index (.tup [x, a, b]) (.int 1) H = some a := fun H => ixs (n := 1) rfl H
      have i2 : ∀ H, index (.tup [x, a, b]) (.int 2) H = some b := fun H => ixs (n := 2) rfl H
      have hst : ∀ (n : Int) (hn : (1 ≤ n) = True) w H, callC (tabF L fuel k 29) [.tup [x, a, b], .int n, .str w] H = some (.bl ((((3 : Int)) == n) && hw x w), H) := hst
      have hsp : seenB (.tup [x, a, b]) = false := rfl
      rw [hsp]; clear hsp
      generalize D.tup [x, a, b] = V at *
      (simp [lbT, hst, i0, i1, i2, -PyD.is_non])
    | [x, a, b, c], hc, hs, hd =>
      have cx : closed x = true := cl_at hc (by simp)
      have ca : closed a = true := cl_at hc (by simp)
      have sa : smD a = true := smD_at hs (by simp)
      have da : depD a ≤ 50 := dep_at hd (by simp)
      have cb : closed b = true := cl_at hc (by simp)
      have sb : smD b = true := smD_at hs (by simp)
      have db : depD b ≤ 50 := dep_at hd (by simp)
      have cc : closed c = true := cl_at hc (by simp)
      have sc : smD c = true := smD_at hs (by simp)
      have dc : depD c ≤ 50 := dep_at hd (by simp)
      have itc : ∀ h, isTyH c .tuple h = some (isT c) := fun h => isty_t cc h
      have nsc : ∀ h, callC (tabF L fuel k 28) [c, .non] h = some (.bl (isT c && numsT c), h) := fun h => l_numsT (fuel := fuel) (k := k) (by omega) c cc sc h
      have n0a : ∀ h, callC (tabF L fuel k 27) [a, .int 0, .non] h = some (.bl (numB a 0 none), h) := fun h => l_num0 (fuel := fuel) (k := k) (by omega) a ca 0 h
      have inb : ∀ h, cmpop .is b .non h = some (isN b) := fun h => is_non b cb h
      have n0b : ∀ h, callC (tabF L fuel k 27) [b, .int 0, .non] h = some (.bl (numB b 0 none), h) := fun h => l_num0 (fuel := fuel) (k := k) (by omega) b cb 0 h
      have i0 : ∀ H, index (.tup [x, a, b, c]) (.int 0) H = some x := fun H => ixs (n := 0) rfl H
      have i1 : ∀ H, index (.tup [x, a, b, c]) (.int 1) H = some a := fun H => ixs (n := 1) rfl H
      have i2 : ∀ H, index (.tup [x, a, b, c]) (.int 2) H = some b := fun H => ixs (n := 2) rfl H
      have i3 : ∀ H, index (.tup [x, a, b, c]) (.int 3) H = some c := fun H => ixs (n := 3) rfl H
      have hst : ∀ (n : Int) (hn : (1 ≤ n) = True) w H, callC (tabF L fuel k 29) [.tup [x, a, b, c], .int n, .str w] H = some (.bl ((((4 : Int)) == n) && hw x w), H) := hst
      have hsl : ∀ H, kSlc3 (.tup [x, a, b, c]) none (some 3, H) = some (.tup [x, a, b], H) := fun _ => rfl
      have c3 : ∀ h, callC (tabF L fuel k 30) [.tup [x, a, b]] h = some (.bl (if hw x "do" then numB a 0 none && (isN b || numB b 0 none) else if hw x "back" then numB a 0 none && isT b else hw x "change" && isT b), h) := fun h => l_choice (fuel := fuel) (k := k) (by omega) (.tup [x, a, b]) (cl_take 3 hc) (sm_take 3 hs) (dep_take 3 hd) h
      have hsp : seenB (.tup [x, a, b, c]) = (hw x "do" && (numB a 0 none && (isN b || numB b 0 none)) && isT c && numsT c) := rfl
      rw [hsp]; clear hsp
      generalize D.tup [x, a, b, c] = V at *
      generalize isT c = B0 at *
      generalize numsT c = B1 at *
      generalize numB a 0 none = B2 at *
      generalize isN b = B3 at *
      generalize numB b 0 none = B4 at *
      by_cases w0 : x = .str "do"
      · subst w0; cases B0 <;> cases B1 <;> cases B2 <;> cases B3 <;> cases B4 <;> (simp [lbT, hst, itc, nsc, n0a, inb, n0b, i0, i1, i2, i3, hsl, c3, hw, -PyD.is_non])
      have w0 := hw_ne w0
      cases B0 <;> cases B1 <;> cases B2 <;> cases B3 <;> cases B4 <;> (simp [lbT, hst, itc, nsc, n0a, inb, n0b, i0, i1, i2, i3, hsl, c3, w0, -PyD.is_non])
    | [x, a, b, c, d], hc, hs, hd =>
      have cx : closed x = true := cl_at hc (by simp)
      have ca : closed a = true := cl_at hc (by simp)
      have sa : smD a = true := smD_at hs (by simp)
      have da : depD a ≤ 50 := dep_at hd (by simp)
      have cb : closed b = true := cl_at hc (by simp)
      have sb : smD b = true := smD_at hs (by simp)
      have db : depD b ≤ 50 := dep_at hd (by simp)
      have cc : closed c = true := cl_at hc (by simp)
      have sc : smD c = true := smD_at hs (by simp)
      have dc : depD c ≤ 50 := dep_at hd (by simp)
      have cd : closed d = true := cl_at hc (by simp)
      have sd : smD d = true := smD_at hs (by simp)
      have dd : depD d ≤ 50 := dep_at hd (by simp)
      have i0 : ∀ H, index (.tup [x, a, b, c, d]) (.int 0) H = some x := fun H => ixs (n := 0) rfl H
      have i1 : ∀ H, index (.tup [x, a, b, c, d]) (.int 1) H = some a := fun H => ixs (n := 1) rfl H
      have i2 : ∀ H, index (.tup [x, a, b, c, d]) (.int 2) H = some b := fun H => ixs (n := 2) rfl H
      have i3 : ∀ H, index (.tup [x, a, b, c, d]) (.int 3) H = some c := fun H => ixs (n := 3) rfl H
      have i4 : ∀ H, index (.tup [x, a, b, c, d]) (.int 4) H = some d := fun H => ixs (n := 4) rfl H
      have hst : ∀ (n : Int) (hn : (1 ≤ n) = True) w H, callC (tabF L fuel k 29) [.tup [x, a, b, c, d], .int n, .str w] H = some (.bl ((((5 : Int)) == n) && hw x w), H) := hst
      have hsp : seenB (.tup [x, a, b, c, d]) = false := rfl
      rw [hsp]; clear hsp
      generalize D.tup [x, a, b, c, d] = V at *
      (simp [lbT, hst, i0, i1, i2, i3, i4, -PyD.is_non])
    | [x, a, b, c, d, e], hc, hs, hd =>
      have cx : closed x = true := cl_at hc (by simp)
      have ca : closed a = true := cl_at hc (by simp)
      have sa : smD a = true := smD_at hs (by simp)
      have da : depD a ≤ 50 := dep_at hd (by simp)
      have cb : closed b = true := cl_at hc (by simp)
      have sb : smD b = true := smD_at hs (by simp)
      have db : depD b ≤ 50 := dep_at hd (by simp)
      have cc : closed c = true := cl_at hc (by simp)
      have sc : smD c = true := smD_at hs (by simp)
      have dc : depD c ≤ 50 := dep_at hd (by simp)
      have cd : closed d = true := cl_at hc (by simp)
      have sd : smD d = true := smD_at hs (by simp)
      have dd : depD d ≤ 50 := dep_at hd (by simp)
      have ce : closed e = true := cl_at hc (by simp)
      have se : smD e = true := smD_at hs (by simp)
      have de : depD e ≤ 50 := dep_at hd (by simp)
      have i0 : ∀ H, index (.tup [x, a, b, c, d, e]) (.int 0) H = some x := fun H => ixs (n := 0) rfl H
      have i1 : ∀ H, index (.tup [x, a, b, c, d, e]) (.int 1) H = some a := fun H => ixs (n := 1) rfl H
      have i2 : ∀ H, index (.tup [x, a, b, c, d, e]) (.int 2) H = some b := fun H => ixs (n := 2) rfl H
      have i3 : ∀ H, index (.tup [x, a, b, c, d, e]) (.int 3) H = some c := fun H => ixs (n := 3) rfl H
      have i4 : ∀ H, index (.tup [x, a, b, c, d, e]) (.int 4) H = some d := fun H => ixs (n := 4) rfl H
      have i5 : ∀ H, index (.tup [x, a, b, c, d, e]) (.int 5) H = some e := fun H => ixs (n := 5) rfl H
      have hst : ∀ (n : Int) (hn : (1 ≤ n) = True) w H, callC (tabF L fuel k 29) [.tup [x, a, b, c, d, e], .int n, .str w] H = some (.bl ((((6 : Int)) == n) && hw x w), H) := hst
      have hsp : seenB (.tup [x, a, b, c, d, e]) = false := rfl
      rw [hsp]; clear hsp
      generalize D.tup [x, a, b, c, d, e] = V at *
      (simp [lbT, hst, i0, i1, i2, i3, i4, i5, -PyD.is_non])
    | x :: a :: b :: c :: d :: e :: f :: r, hc, hs, hd =>
      have hst2 : ∀ (n : Int) (hn : (1 ≤ n) = True) (h2 : (n ≤ 6) = True) w H, callC (tabF L fuel k 29) [.tup (x :: a :: b :: c :: d :: e :: f :: r), .int n, .str w] H = some (.bl false, H) := fun n hn h2 w H => by
        rw [hst n hn w H, show st (.tup (x :: a :: b :: c :: d :: e :: f :: r)) n w = false from by simp only [st, Bool.and_eq_false_iff, beq_eq_false_iff_ne]; left; simp at h2 ⊢; omega]
      rw [seenB_7]
      clear hst
      generalize D.tup (x :: a :: b :: c :: d :: e :: f :: r) = V at *
      simp [lbT, hst2]
  | _ => simp [lbT, hst, st, seenB]
theorem l_body_run {k : Nat} (hk : 3 ≤ k) (mn : Int) (v : D) (hc : closed v = true) (hs : smD v = true) (hd : depD v ≤ 50) : tabF L fuel k 31 [.int mn, v] [] = some (.bl (bodyB mn v), []) := by
  obtain ⟨k, rfl⟩ : ∃ m, k = m + 1 := ⟨k - 1, by omega⟩
  rw [tab_step (d := d__law_is_body) rfl]
  have hst : ∀ (n : Int) (hn : (1 ≤ n) = True) w H, callC (tabF L fuel k 29) [v, .int n, .str w] H = some (.bl (st v n w), H) := fun n hn w H => l_st (fuel := fuel) (k := k) (by omega) v hc n (by simpa using hn) w H
  have ht := fun H => isty_t hc H
  show (exs (tabF L fuel k) fuel b__law_is_body _ []).bind (kRun false 0) = _
  rw [lbW_eq]
  cases v with
  | ref n => simp [closed] at hc
  | fn n => simp [closed] at hc
  | tup ds =>
    match ds, hc, hs, hd with
    | [], hc, hs, hd => (simp [d__law_is_body, lbW, hst, ht, isT, st, bodyB_nil, hw, -PyD.is_non, Bool.or_false, Bool.and_false]; try exact fin_0 rfl)
    | [x], hc, hs, hd =>
      have cx : closed x = true := cl_at hc (by simp)
      have i0 : ∀ H, index (.tup [x]) (.int 0) H = some x := fun H => ixs (n := 0) rfl H
      have hlen : ∀ H, bltf .len [.tup [x]] H = some (.int 1) := fun _ => rfl
      have hst : ∀ (n : Int) (hn : (1 ≤ n) = True) w H, callC (tabF L fuel k 29) [.tup [x], .int n, .str w] H = some (.bl ((((1 : Int)) == n) && hw x w), H) := hst
      have hsp : bodyB mn (.tup [x]) = (hw x "dawn") := rfl
      rw [hsp]; clear hsp
      simp only [isT] at ht
      generalize D.tup [x] = V at *
      by_cases w0 : x = .str "dawn"
      · subst w0
        (simp [d__law_is_body, lbW, hst, ht, i0, hlen, hw, -PyD.is_non, Bool.or_false, Bool.and_false]; try exact fin_0 rfl)
      have w0 := hw_ne w0
      (simp [d__law_is_body, lbW, hst, ht, i0, hlen, w0, -PyD.is_non, Bool.or_false, Bool.and_false]; try exact fin_0 rfl)
    | [x, a], hc, hs, hd =>
      have cx : closed x = true := cl_at hc (by simp)
      have ca : closed a = true := cl_at hc (by simp)
      have sa : smD a = true := smD_at hs (by simp)
      have da : depD a ≤ 50 := dep_at hd (by simp)
      have sta : ∀ h, callC (tabF L fuel k 29) [a, .int 2, .str "pass"] h = some (.bl (st a 2 "pass"), h) := fun h => l_st (fuel := fuel) (k := k) (by omega) a ca 2 (by omega) "pass" h
      have ata : st a 2 "pass" = true → ∀ H, index a (.int 1) H = some (at1 a) := fun z H => st_at1 z H
      have naa : ∀ h, callC (tabF L fuel k 27) [at1 a, .int 0, .non] h = some (.bl (numB (at1 a) 0 none), h) := fun h => l_num0 (fuel := fuel) (k := k) (by omega) (at1 a) (at1_closed ca) 0 h
      have i0 : ∀ H, index (.tup [x, a]) (.int 0) H = some x := fun H => ixs (n := 0) rfl H
      have i1 : ∀ H, index (.tup [x, a]) (.int 1) H = some a := fun H => ixs (n := 1) rfl H
      have hlen : ∀ H, bltf .len [.tup [x, a]] H = some (.int 2) := fun _ => rfl
      have hst : ∀ (n : Int) (hn : (1 ≤ n) = True) w H, callC (tabF L fuel k 29) [.tup [x, a], .int n, .str w] H = some (.bl ((((2 : Int)) == n) && hw x w), H) := hst
      have hsp : bodyB mn (.tup [x, a]) = (hw x "silent" && choB a && hw (hd0 a) "pass") := rfl
      rw [hsp]; clear hsp
      rw [Bool.and_assoc, sil_eq]
      simp only [isT] at ht
      generalize D.tup [x, a] = V at *
      generalize st a 2 "pass" = B0 at *
      generalize numB (at1 a) 0 none = B1 at *
      by_cases w0 : x = .str "silent"
      · subst w0
        cases B0 with
        | false => (simp [d__law_is_body, lbW, hst, ht, sta, ata, naa, i0, i1, hlen, hw, -PyD.is_non, Bool.or_false, Bool.and_false]; try exact fin_0 rfl)
        | true =>
          (simp [d__law_is_body, lbW, hst, ht, sta, ata, naa, i0, i1, hlen, hw, -PyD.is_non, Bool.or_false, Bool.and_false]; try exact fin_0 rfl)
      have w0 := hw_ne w0
      (simp [d__law_is_body, lbW, hst, ht, sta, ata, naa, i0, i1, hlen, w0, -PyD.is_non, Bool.or_false, Bool.and_false]; try exact fin_0 rfl)
    | [x, a, b], hc, hs, hd =>
      have cx : closed x = true := cl_at hc (by simp)
      have ca : closed a = true := cl_at hc (by simp)
      have sa : smD a = true := smD_at hs (by simp)
      have da : depD a ≤ 50 := dep_at hd (by simp)
      have cb : closed b = true := cl_at hc (by simp)
      have sb : smD b = true := smD_at hs (by simp)
      have db : depD b ≤ 50 := dep_at hd (by simp)
      have nma : ∀ h, callC (tabF L fuel k 27) [a, .int 0, .int (mn - 1)] h = some (.bl (numB a 0 (some (mn - 1))), h) := fun h => l_num (fuel := fuel) (k := k) (by omega) a ca 0 (mn - 1) h
      have n0b : ∀ h, callC (tabF L fuel k 27) [b, .int 0, .non] h = some (.bl (numB b 0 none), h) := fun h => l_num0 (fuel := fuel) (k := k) (by omega) b cb 0 h
      have i0 : ∀ H, index (.tup [x, a, b]) (.int 0) H = some x := fun H => ixs (n := 0) rfl H
      have i1 : ∀ H, index (.tup [x, a, b]) (.int 1) H = some a := fun H => ixs (n := 1) rfl H
      have i2 : ∀ H, index (.tup [x, a, b]) (.int 2) H = some b := fun H => ixs (n := 2) rfl H
      have hlen : ∀ H, bltf .len [.tup [x, a, b]] H = some (.int 3) := fun _ => rfl
      have hst : ∀ (n : Int) (hn : (1 ≤ n) = True) w H, callC (tabF L fuel k 29) [.tup [x, a, b], .int n, .str w] H = some (.bl ((((3 : Int)) == n) && hw x w), H) := hst
      have hsp : bodyB mn (.tup [x, a, b]) = (hw x "void" && numB a 0 (some (mn - 1)) && numB b 0 none) := rfl
      rw [hsp]; clear hsp
      simp only [isT] at ht
      generalize D.tup [x, a, b] = V at *
      generalize numB a 0 (some (mn - 1)) = B0 at *
      generalize numB b 0 none = B1 at *
      by_cases w0 : x = .str "void"
      · subst w0
        cases B0 with
        | false => (simp [d__law_is_body, lbW, hst, ht, nma, n0b, i0, i1, i2, hlen, hw, -PyD.is_non, Bool.or_false, Bool.and_false]; try exact fin_0 rfl)
        | true =>
          cases B1 with
          | false => (simp [d__law_is_body, lbW, hst, ht, nma, n0b, i0, i1, i2, hlen, hw, -PyD.is_non, Bool.or_false, Bool.and_false]; try exact fin_0 rfl)
          | true =>
            (simp [d__law_is_body, lbW, hst, ht, nma, n0b, i0, i1, i2, hlen, hw, -PyD.is_non, Bool.or_false, Bool.and_false]; try exact fin_0 rfl)
      have w0 := hw_ne w0
      cases B0 with
      | false => (simp [d__law_is_body, lbW, hst, ht, nma, n0b, i0, i1, i2, hlen, w0, -PyD.is_non, Bool.or_false, Bool.and_false]; try exact fin_0 rfl)
      | true =>
        cases B1 with
        | false => (simp [d__law_is_body, lbW, hst, ht, nma, n0b, i0, i1, i2, hlen, w0, -PyD.is_non, Bool.or_false, Bool.and_false]; try exact fin_0 rfl)
        | true =>
          (simp [d__law_is_body, lbW, hst, ht, nma, n0b, i0, i1, i2, hlen, w0, -PyD.is_non, Bool.or_false, Bool.and_false]; try exact fin_0 rfl)
    | [x, a, b, c], hc, hs, hd =>
      have cx : closed x = true := cl_at hc (by simp)
      have ca : closed a = true := cl_at hc (by simp)
      have sa : smD a = true := smD_at hs (by simp)
      have da : depD a ≤ 50 := dep_at hd (by simp)
      have cb : closed b = true := cl_at hc (by simp)
      have sb : smD b = true := smD_at hs (by simp)
      have db : depD b ≤ 50 := dep_at hd (by simp)
      have cc : closed c = true := cl_at hc (by simp)
      have sc : smD c = true := smD_at hs (by simp)
      have dc : depD c ≤ 50 := dep_at hd (by simp)
      have nma : ∀ h, callC (tabF L fuel k 27) [a, .int 0, .int (mn - 1)] h = some (.bl (numB a 0 (some (mn - 1))), h) := fun h => l_num (fuel := fuel) (k := k) (by omega) a ca 0 (mn - 1) h
      have n0b : ∀ h, callC (tabF L fuel k 27) [b, .int 0, .non] h = some (.bl (numB b 0 none), h) := fun h => l_num0 (fuel := fuel) (k := k) (by omega) b cb 0 h
      have i0 : ∀ H, index (.tup [x, a, b, c]) (.int 0) H = some x := fun H => ixs (n := 0) rfl H
      have i1 : ∀ H, index (.tup [x, a, b, c]) (.int 1) H = some a := fun H => ixs (n := 1) rfl H
      have i2 : ∀ H, index (.tup [x, a, b, c]) (.int 2) H = some b := fun H => ixs (n := 2) rfl H
      have i3 : ∀ H, index (.tup [x, a, b, c]) (.int 3) H = some c := fun H => ixs (n := 3) rfl H
      have hlen : ∀ H, bltf .len [.tup [x, a, b, c]] H = some (.int 4) := fun _ => rfl
      have hst : ∀ (n : Int) (hn : (1 ≤ n) = True) w H, callC (tabF L fuel k 29) [.tup [x, a, b, c], .int n, .str w] H = some (.bl ((((4 : Int)) == n) && hw x w), H) := hst
      have lb := fun s0 s1 => lbT_run (fuel := fuel) (k := k) (by omega) s0 s1 c cc sc dc
      have hsp : bodyB mn (.tup [x, a, b, c]) = (hw x "done" && numB a 0 (some (mn - 1)) && numB b 0 none && seenB c) := rfl
      rw [hsp]; clear hsp
      simp only [isT] at ht
      generalize D.tup [x, a, b, c] = V at *
      generalize numB a 0 (some (mn - 1)) = B0 at *
      generalize numB b 0 none = B1 at *
      by_cases w0 : x = .str "done"
      · subst w0
        cases B0 with
        | false => (simp [d__law_is_body, lbW, hst, ht, nma, n0b, i0, i1, i2, i3, hlen, lb, hw, -PyD.is_non, Bool.or_false, Bool.and_false]; try exact fin_0 rfl)
        | true =>
          cases B1 with
          | false => (simp [d__law_is_body, lbW, hst, ht, nma, n0b, i0, i1, i2, i3, hlen, lb, hw, -PyD.is_non, Bool.or_false, Bool.and_false]; try exact fin_0 rfl)
          | true =>
            (simp [d__law_is_body, lbW, hst, ht, nma, n0b, i0, i1, i2, i3, hlen, lb, hw, -PyD.is_non, Bool.or_false, Bool.and_false]; try exact fin_0 rfl)
      have w0 := hw_ne w0
      cases B0 with
      | false => (simp [d__law_is_body, lbW, hst, ht, nma, n0b, i0, i1, i2, i3, hlen, lb, w0, -PyD.is_non, Bool.or_false, Bool.and_false]; try exact fin_0 rfl)
      | true =>
        cases B1 with
        | false => (simp [d__law_is_body, lbW, hst, ht, nma, n0b, i0, i1, i2, i3, hlen, lb, w0, -PyD.is_non, Bool.or_false, Bool.and_false]; try exact fin_0 rfl)
        | true =>
          (simp [d__law_is_body, lbW, hst, ht, nma, n0b, i0, i1, i2, i3, hlen, lb, w0, -PyD.is_non, Bool.or_false, Bool.and_false]; try exact fin_0 rfl)
    | [x, a, b, c, d], hc, hs, hd =>
      have cx : closed x = true := cl_at hc (by simp)
      have ca : closed a = true := cl_at hc (by simp)
      have sa : smD a = true := smD_at hs (by simp)
      have da : depD a ≤ 50 := dep_at hd (by simp)
      have cb : closed b = true := cl_at hc (by simp)
      have sb : smD b = true := smD_at hs (by simp)
      have db : depD b ≤ 50 := dep_at hd (by simp)
      have cc : closed c = true := cl_at hc (by simp)
      have sc : smD c = true := smD_at hs (by simp)
      have dc : depD c ≤ 50 := dep_at hd (by simp)
      have cd : closed d = true := cl_at hc (by simp)
      have sd : smD d = true := smD_at hs (by simp)
      have dd : depD d ≤ 50 := dep_at hd (by simp)
      have nma : ∀ h, callC (tabF L fuel k 27) [a, .int 0, .int (mn - 1)] h = some (.bl (numB a 0 (some (mn - 1))), h) := fun h => l_num (fuel := fuel) (k := k) (by omega) a ca 0 (mn - 1) h
      have n0b : ∀ h, callC (tabF L fuel k 27) [b, .int 0, .non] h = some (.bl (numB b 0 none), h) := fun h => l_num0 (fuel := fuel) (k := k) (by omega) b cb 0 h
      have isd : ∀ h, isTyH d .str h = some (isS d) := fun h => isty_s cd h
      have nid : isS d = true → ∀ h, cmpop .notin d (.tup [.str "done", .str "void"]) h = some (!wordD d) := fun z h => notin_w z h
      have i0 : ∀ H, index (.tup [x, a, b, c, d]) (.int 0) H = some x := fun H => ixs (n := 0) rfl H
      have i1 : ∀ H, index (.tup [x, a, b, c, d]) (.int 1) H = some a := fun H => ixs (n := 1) rfl H
      have i2 : ∀ H, index (.tup [x, a, b, c, d]) (.int 2) H = some b := fun H => ixs (n := 2) rfl H
      have i3 : ∀ H, index (.tup [x, a, b, c, d]) (.int 3) H = some c := fun H => ixs (n := 3) rfl H
      have i4 : ∀ H, index (.tup [x, a, b, c, d]) (.int 4) H = some d := fun H => ixs (n := 4) rfl H
      have hlen : ∀ H, bltf .len [.tup [x, a, b, c, d]] H = some (.int 5) := fun _ => rfl
      have hst : ∀ (n : Int) (hn : (1 ≤ n) = True) w H, callC (tabF L fuel k 29) [.tup [x, a, b, c, d], .int n, .str w] H = some (.bl ((((5 : Int)) == n) && hw x w), H) := hst
      have hsp : bodyB mn (.tup [x, a, b, c, d]) = (hw x "change" && numB a 0 (some (mn - 1)) && numB b 0 none && isS d && wordD d) := rfl
      rw [hsp]; clear hsp
      simp only [isT] at ht
      generalize D.tup [x, a, b, c, d] = V at *
      generalize numB a 0 (some (mn - 1)) = B0 at *
      generalize numB b 0 none = B1 at *
      generalize isS d = B2 at *
      generalize wordD d = B3 at *
      by_cases w0 : x = .str "change"
      · subst w0
        cases B0 with
        | false => (simp [d__law_is_body, lbW, hst, ht, nma, n0b, isd, nid, i0, i1, i2, i3, i4, hlen, hw, -PyD.is_non, Bool.or_false, Bool.and_false]; try exact fin_0 rfl)
        | true =>
          cases B1 with
          | false => (simp [d__law_is_body, lbW, hst, ht, nma, n0b, isd, nid, i0, i1, i2, i3, i4, hlen, hw, -PyD.is_non, Bool.or_false, Bool.and_false]; try exact fin_0 rfl)
          | true =>
            cases B2 with
            | false => (simp [d__law_is_body, lbW, hst, ht, nma, n0b, isd, nid, i0, i1, i2, i3, i4, hlen, hw, -PyD.is_non, Bool.or_false, Bool.and_false]; try exact fin_0 rfl)
            | true =>
              cases B3 with
              | false => (simp [d__law_is_body, lbW, hst, ht, nma, n0b, isd, nid, i0, i1, i2, i3, i4, hlen, hw, -PyD.is_non, Bool.or_false, Bool.and_false]; try exact fin_0 rfl)
              | true =>
                (simp [d__law_is_body, lbW, hst, ht, nma, n0b, isd, nid, i0, i1, i2, i3, i4, hlen, hw, -PyD.is_non, Bool.or_false, Bool.and_false]; try exact fin_0 rfl)
      have w0 := hw_ne w0
      cases B0 with
      | false => (simp [d__law_is_body, lbW, hst, ht, nma, n0b, isd, nid, i0, i1, i2, i3, i4, hlen, w0, -PyD.is_non, Bool.or_false, Bool.and_false]; try exact fin_0 rfl)
      | true =>
        cases B1 with
        | false => (simp [d__law_is_body, lbW, hst, ht, nma, n0b, isd, nid, i0, i1, i2, i3, i4, hlen, w0, -PyD.is_non, Bool.or_false, Bool.and_false]; try exact fin_0 rfl)
        | true =>
          cases B2 with
          | false => (simp [d__law_is_body, lbW, hst, ht, nma, n0b, isd, nid, i0, i1, i2, i3, i4, hlen, w0, -PyD.is_non, Bool.or_false, Bool.and_false]; try exact fin_0 rfl)
          | true =>
            cases B3 with
            | false => (simp [d__law_is_body, lbW, hst, ht, nma, n0b, isd, nid, i0, i1, i2, i3, i4, hlen, w0, -PyD.is_non, Bool.or_false, Bool.and_false]; try exact fin_0 rfl)
            | true =>
              (simp [d__law_is_body, lbW, hst, ht, nma, n0b, isd, nid, i0, i1, i2, i3, i4, hlen, w0, -PyD.is_non, Bool.or_false, Bool.and_false]; try exact fin_0 rfl)
    | [x, a, b, c, d, e], hc, hs, hd =>
      have cx : closed x = true := cl_at hc (by simp)
      have ca : closed a = true := cl_at hc (by simp)
      have sa : smD a = true := smD_at hs (by simp)
      have da : depD a ≤ 50 := dep_at hd (by simp)
      have cb : closed b = true := cl_at hc (by simp)
      have sb : smD b = true := smD_at hs (by simp)
      have db : depD b ≤ 50 := dep_at hd (by simp)
      have cc : closed c = true := cl_at hc (by simp)
      have sc : smD c = true := smD_at hs (by simp)
      have dc : depD c ≤ 50 := dep_at hd (by simp)
      have cd : closed d = true := cl_at hc (by simp)
      have sd : smD d = true := smD_at hs (by simp)
      have dd : depD d ≤ 50 := dep_at hd (by simp)
      have ce : closed e = true := cl_at hc (by simp)
      have se : smD e = true := smD_at hs (by simp)
      have de : depD e ≤ 50 := dep_at hd (by simp)
      have nma : ∀ h, callC (tabF L fuel k 27) [a, .int 0, .int (mn - 1)] h = some (.bl (numB a 0 (some (mn - 1))), h) := fun h => l_num (fuel := fuel) (k := k) (by omega) a ca 0 (mn - 1) h
      have n0b : ∀ h, callC (tabF L fuel k 27) [b, .int 0, .non] h = some (.bl (numB b 0 none), h) := fun h => l_num0 (fuel := fuel) (k := k) (by omega) b cb 0 h
      have isd : ∀ h, isTyH d .str h = some (isS d) := fun h => isty_s cd h
      have nid : isS d = true → ∀ h, cmpop .notin d (.tup [.str "done", .str "void"]) h = some (!wordD d) := fun z h => notin_w z h
      have n0c : ∀ h, callC (tabF L fuel k 27) [c, .int 0, .non] h = some (.bl (numB c 0 none), h) := fun h => l_num0 (fuel := fuel) (k := k) (by omega) c cc 0 h
      have ite : ∀ h, isTyH e .tuple h = some (isT e) := fun h => isty_t ce h
      have nse : ∀ h, callC (tabF L fuel k 28) [e, .non] h = some (.bl (isT e && numsT e), h) := fun h => l_numsT (fuel := fuel) (k := k) (by omega) e ce se h
      have i0 : ∀ H, index (.tup [x, a, b, c, d, e]) (.int 0) H = some x := fun H => ixs (n := 0) rfl H
      have i1 : ∀ H, index (.tup [x, a, b, c, d, e]) (.int 1) H = some a := fun H => ixs (n := 1) rfl H
      have i2 : ∀ H, index (.tup [x, a, b, c, d, e]) (.int 2) H = some b := fun H => ixs (n := 2) rfl H
      have i3 : ∀ H, index (.tup [x, a, b, c, d, e]) (.int 3) H = some c := fun H => ixs (n := 3) rfl H
      have i4 : ∀ H, index (.tup [x, a, b, c, d, e]) (.int 4) H = some d := fun H => ixs (n := 4) rfl H
      have i5 : ∀ H, index (.tup [x, a, b, c, d, e]) (.int 5) H = some e := fun H => ixs (n := 5) rfl H
      have hlen : ∀ H, bltf .len [.tup [x, a, b, c, d, e]] H = some (.int 6) := fun _ => rfl
      have hst : ∀ (n : Int) (hn : (1 ≤ n) = True) w H, callC (tabF L fuel k 29) [.tup [x, a, b, c, d, e], .int n, .str w] H = some (.bl ((((6 : Int)) == n) && hw x w), H) := hst
      have hsp : bodyB mn (.tup [x, a, b, c, d, e]) = (hw x "back" && numB a 0 (some (mn - 1)) && numB b 0 none && isS d && wordD d && numB c 0 none && isT e && numsT e) := rfl
      rw [hsp]; clear hsp
      simp only [isT] at ht
      generalize D.tup [x, a, b, c, d, e] = V at *
      generalize numB a 0 (some (mn - 1)) = B0 at *
      generalize numB b 0 none = B1 at *
      generalize isS d = B2 at *
      generalize wordD d = B3 at *
      generalize numB c 0 none = B4 at *
      generalize isT e = B5 at *
      generalize numsT e = B6 at *
      by_cases w0 : x = .str "back"
      · subst w0
        cases B0 with
        | false => (simp [d__law_is_body, lbW, hst, ht, nma, n0b, isd, nid, n0c, ite, nse, i0, i1, i2, i3, i4, i5, hlen, hw, -PyD.is_non, Bool.or_false, Bool.and_false]; try exact fin_0 rfl)
        | true =>
          cases B1 with
          | false => (simp [d__law_is_body, lbW, hst, ht, nma, n0b, isd, nid, n0c, ite, nse, i0, i1, i2, i3, i4, i5, hlen, hw, -PyD.is_non, Bool.or_false, Bool.and_false]; try exact fin_0 rfl)
          | true =>
            cases B2 with
            | false => (simp [d__law_is_body, lbW, hst, ht, nma, n0b, isd, nid, n0c, ite, nse, i0, i1, i2, i3, i4, i5, hlen, hw, -PyD.is_non, Bool.or_false, Bool.and_false]; try exact fin_0 rfl)
            | true =>
              cases B3 with
              | false => (simp [d__law_is_body, lbW, hst, ht, nma, n0b, isd, nid, n0c, ite, nse, i0, i1, i2, i3, i4, i5, hlen, hw, -PyD.is_non, Bool.or_false, Bool.and_false]; try exact fin_0 rfl)
              | true =>
                cases B4 with
                | false => (simp [d__law_is_body, lbW, hst, ht, nma, n0b, isd, nid, n0c, ite, nse, i0, i1, i2, i3, i4, i5, hlen, hw, -PyD.is_non, Bool.or_false, Bool.and_false]; try exact fin_0 rfl)
                | true =>
                  cases B5 with
                  | false => (simp [d__law_is_body, lbW, hst, ht, nma, n0b, isd, nid, n0c, ite, nse, i0, i1, i2, i3, i4, i5, hlen, hw, -PyD.is_non, Bool.or_false, Bool.and_false]; try exact fin_0 rfl)
                  | true =>
                    (simp [d__law_is_body, lbW, hst, ht, nma, n0b, isd, nid, n0c, ite, nse, i0, i1, i2, i3, i4, i5, hlen, hw, -PyD.is_non, Bool.or_false, Bool.and_false]; try exact fin_0 rfl)
      have w0 := hw_ne w0
      cases B0 with
      | false => (simp [d__law_is_body, lbW, hst, ht, nma, n0b, isd, nid, n0c, ite, nse, i0, i1, i2, i3, i4, i5, hlen, w0, -PyD.is_non, Bool.or_false, Bool.and_false]; try exact fin_0 rfl)
      | true =>
        cases B1 with
        | false => (simp [d__law_is_body, lbW, hst, ht, nma, n0b, isd, nid, n0c, ite, nse, i0, i1, i2, i3, i4, i5, hlen, w0, -PyD.is_non, Bool.or_false, Bool.and_false]; try exact fin_0 rfl)
        | true =>
          cases B2 with
          | false => (simp [d__law_is_body, lbW, hst, ht, nma, n0b, isd, nid, n0c, ite, nse, i0, i1, i2, i3, i4, i5, hlen, w0, -PyD.is_non, Bool.or_false, Bool.and_false]; try exact fin_0 rfl)
          | true =>
            cases B3 with
            | false => (simp [d__law_is_body, lbW, hst, ht, nma, n0b, isd, nid, n0c, ite, nse, i0, i1, i2, i3, i4, i5, hlen, w0, -PyD.is_non, Bool.or_false, Bool.and_false]; try exact fin_0 rfl)
            | true =>
              (simp [d__law_is_body, lbW, hst, ht, nma, n0b, isd, nid, n0c, ite, nse, i0, i1, i2, i3, i4, i5, hlen, w0, -PyD.is_non, Bool.or_false, Bool.and_false]; try exact fin_0 rfl)
    | x :: a :: b :: c :: d :: e :: f :: r, hc, hs, hd =>
      have ca : closed a = true := cl_at hc (by simp)
      have sa : smD a = true := smD_at hs (by simp)
      have da : depD a ≤ 50 := dep_at hd (by simp)
      have cb : closed b = true := cl_at hc (by simp)
      have sb : smD b = true := smD_at hs (by simp)
      have db : depD b ≤ 50 := dep_at hd (by simp)
      have cc : closed c = true := cl_at hc (by simp)
      have sc : smD c = true := smD_at hs (by simp)
      have dc : depD c ≤ 50 := dep_at hd (by simp)
      have cd : closed d = true := cl_at hc (by simp)
      have sd : smD d = true := smD_at hs (by simp)
      have dd : depD d ≤ 50 := dep_at hd (by simp)
      have ce : closed e = true := cl_at hc (by simp)
      have se : smD e = true := smD_at hs (by simp)
      have de : depD e ≤ 50 := dep_at hd (by simp)
      have nma : ∀ h, callC (tabF L fuel k 27) [a, .int 0, .int (mn - 1)] h = some (.bl (numB a 0 (some (mn - 1))), h) := fun h => l_num (fuel := fuel) (k := k) (by omega) a ca 0 (mn - 1) h
      have n0b : ∀ h, callC (tabF L fuel k 27) [b, .int 0, .non] h = some (.bl (numB b 0 none), h) := fun h => l_num0 (fuel := fuel) (k := k) (by omega) b cb 0 h
      have isd : ∀ h, isTyH d .str h = some (isS d) := fun h => isty_s cd h
      have nid : isS d = true → ∀ h, cmpop .notin d (.tup [.str "done", .str "void"]) h = some (!wordD d) := fun z h => notin_w z h
      have i0 : ∀ H, index (.tup (x :: a :: b :: c :: d :: e :: f :: r)) (.int 0) H = some x := fun H => ixs (n := 0) rfl H
      have i1 : ∀ H, index (.tup (x :: a :: b :: c :: d :: e :: f :: r)) (.int 1) H = some a := fun H => ixs (n := 1) rfl H
      have i2 : ∀ H, index (.tup (x :: a :: b :: c :: d :: e :: f :: r)) (.int 2) H = some b := fun H => ixs (n := 2) rfl H
      have i3 : ∀ H, index (.tup (x :: a :: b :: c :: d :: e :: f :: r)) (.int 3) H = some c := fun H => ixs (n := 3) rfl H
      have i4 : ∀ H, index (.tup (x :: a :: b :: c :: d :: e :: f :: r)) (.int 4) H = some d := fun H => ixs (n := 4) rfl H
      have hlen : ∀ H, bltf .len [.tup (x :: a :: b :: c :: d :: e :: f :: r)] H = some (.int ((r.length : Nat) + 7 : Int)) := fun H => by rw [len_tup]; simp; omega
      have hst2 : ∀ (n : Int) (hn : (1 ≤ n) = True) (h2 : (n ≤ 6) = True) w H, callC (tabF L fuel k 29) [.tup (x :: a :: b :: c :: d :: e :: f :: r), .int n, .str w] H = some (.bl false, H) := fun n hn h2 w H => by
        rw [hst n hn w H, show st (.tup (x :: a :: b :: c :: d :: e :: f :: r)) n w = false from by simp only [st, Bool.and_eq_false_iff, beq_eq_false_iff_ne]; left; simp at h2 ⊢; omega]
      have m3 : decide (((r.length : Nat) : Int) + 7 < 3) = false := by simp; omega
      have m3b : ¬ (((r.length : Nat) : Int) + 7 < 3) := by omega
      have m4 : decide (((r.length : Nat) : Int) + 7 < 4) = false := by simp; omega
      have m4b : ¬ (((r.length : Nat) : Int) + 7 < 4) := by omega
      have m5 : decide (((r.length : Nat) : Int) + 7 < 5) = false := by simp; omega
      have m5b : ¬ (((r.length : Nat) : Int) + 7 < 5) := by omega
      rw [bodyB_7]
      generalize ((r.length : Nat) : Int) = LN at *
      clear hst
      simp only [isT] at ht
      generalize D.tup (x :: a :: b :: c :: d :: e :: f :: r) = V at *
      generalize numB a 0 (some (mn - 1)) = B0 at *
      generalize numB b 0 none = B1 at *
      generalize isS d = B2 at *
      generalize wordD d = B3 at *
      cases B0 with
      | false => (simp [d__law_is_body, lbW, ht, nma, n0b, isd, nid, i0, i1, i2, i3, i4, hlen, hst2, m3, m3b, m4, m4b, m5, m5b, -PyD.is_non, Bool.or_false, Bool.and_false]; try exact fin_0 rfl)
      | true =>
        cases B1 with
        | false => (simp [d__law_is_body, lbW, ht, nma, n0b, isd, nid, i0, i1, i2, i3, i4, hlen, hst2, m3, m3b, m4, m4b, m5, m5b, -PyD.is_non, Bool.or_false, Bool.and_false]; try exact fin_0 rfl)
        | true =>
          cases B2 with
          | false => (simp [d__law_is_body, lbW, ht, nma, n0b, isd, nid, i0, i1, i2, i3, i4, hlen, hst2, m3, m3b, m4, m4b, m5, m5b, -PyD.is_non, Bool.or_false, Bool.and_false]; try exact fin_0 rfl)
          | true =>
            cases B3 with
            | false => (simp [d__law_is_body, lbW, ht, nma, n0b, isd, nid, i0, i1, i2, i3, i4, hlen, hst2, m3, m3b, m4, m4b, m5, m5b, -PyD.is_non, Bool.or_false, Bool.and_false]; try exact fin_0 rfl)
            | true =>
              (simp [d__law_is_body, lbW, ht, nma, n0b, isd, nid, i0, i1, i2, i3, i4, hlen, hst2, m3, m3b, m4, m4b, m5, m5b, -PyD.is_non, Bool.or_false, Bool.and_false]; try exact fin_0 rfl)
  | _ =>
    simp only [isT] at ht
    (simp [d__law_is_body, lbW, hst, ht, st, bodyB, hw, -PyD.is_non, Bool.or_false, Bool.and_false]; try exact fin_0 rfl)
theorem l_body {k : Nat} (hk : 3 ≤ k) (mn : Int) (v : D) (hc : closed v = true) (hs : smD v = true) (hd : depD v ≤ 50) (h : AH) : callC (tabF L fuel k 31) [.int mn, v] h = some (.bl (bodyB mn v), h) := callV (by simp [hc, closeds, closed]) (l_body_run hk mn v hc hs hd) rfl
theorem l_body2 {k : Nat} (hk : 3 ≤ k) (mn : Int) (v : D) (hc : closed v = true) (hs : smD v = true) (hd : depD v ≤ 50) (h : AH) : callC (tabF L fuel k 31) [.int mn, v] h = some (.bl (bodyB mn v), h) := l_body hk mn v hc hs hd h
theorem l_letter_run {k : Nat} (hk : 4 ≤ k) (mn : Int) (v : D) (hc : closed v = true) (hs : smD v = true) (hd : depD v ≤ 50) : tabF L fuel k 32 [.int mn, v] [] = some (.bl (letB mn v), []) := by
  obtain ⟨k, rfl⟩ : ∃ m, k = m + 1 := ⟨k - 1, by omega⟩
  rw [tab_step (d := d__law_is_letter) rfl]
  have hst : ∀ (n : Int) (hn : (1 ≤ n) = True) w H, callC (tabF L fuel k 29) [v, .int n, .str w] H = some (.bl (st v n w), H) := fun n hn w H => l_st (fuel := fuel) (k := k) (by omega) v hc n (by simpa using hn) w H
  have ht := fun H => isty_t hc H
  cases v with
  | ref n => simp [closed] at hc
  | fn n => simp [closed] at hc
  | tup ds =>
    match ds, hc, hs, hd with
    | [], hc, hs, hd => (simp [d__law_is_letter, b__law_is_letter, hst, ht, isT, st, letB_nil, hw, -PyD.is_non, Bool.or_false, Bool.and_false]; try exact fin_0 rfl)
    | [x], hc, hs, hd =>
      have cx : closed x = true := cl_at hc (by simp)
      have i0 : ∀ H, index (.tup [x]) (.int 0) H = some x := fun H => ixs (n := 0) rfl H
      have hlen : ∀ H, bltf .len [.tup [x]] H = some (.int 1) := fun _ => rfl
      have hst : ∀ (n : Int) (hn : (1 ≤ n) = True) w H, callC (tabF L fuel k 29) [.tup [x], .int n, .str w] H = some (.bl ((((1 : Int)) == n) && hw x w), H) := hst
      have hsp : letB mn (.tup [x]) = false := rfl
      rw [hsp]; clear hsp
      simp only [isT] at ht
      generalize D.tup [x] = V at *
      (simp [d__law_is_letter, b__law_is_letter, hst, ht, i0, hlen, -PyD.is_non, Bool.or_false, Bool.and_false]; try exact fin_0 rfl)
    | [x, a], hc, hs, hd =>
      have cx : closed x = true := cl_at hc (by simp)
      have ca : closed a = true := cl_at hc (by simp)
      have sa : smD a = true := smD_at hs (by simp)
      have da : depD a ≤ 50 := dep_at hd (by simp)
      have i0 : ∀ H, index (.tup [x, a]) (.int 0) H = some x := fun H => ixs (n := 0) rfl H
      have i1 : ∀ H, index (.tup [x, a]) (.int 1) H = some a := fun H => ixs (n := 1) rfl H
      have hlen : ∀ H, bltf .len [.tup [x, a]] H = some (.int 2) := fun _ => rfl
      have hst : ∀ (n : Int) (hn : (1 ≤ n) = True) w H, callC (tabF L fuel k 29) [.tup [x, a], .int n, .str w] H = some (.bl ((((2 : Int)) == n) && hw x w), H) := hst
      have hsp : letB mn (.tup [x, a]) = false := rfl
      rw [hsp]; clear hsp
      simp only [isT] at ht
      generalize D.tup [x, a] = V at *
      (simp [d__law_is_letter, b__law_is_letter, hst, ht, i0, i1, hlen, -PyD.is_non, Bool.or_false, Bool.and_false]; try exact fin_0 rfl)
    | [x, a, b], hc, hs, hd =>
      have cx : closed x = true := cl_at hc (by simp)
      have ca : closed a = true := cl_at hc (by simp)
      have sa : smD a = true := smD_at hs (by simp)
      have da : depD a ≤ 50 := dep_at hd (by simp)
      have cb : closed b = true := cl_at hc (by simp)
      have sb : smD b = true := smD_at hs (by simp)
      have db : depD b ≤ 50 := dep_at hd (by simp)
      have nma : ∀ h, callC (tabF L fuel k 27) [a, .int 0, .int (mn - 1)] h = some (.bl (numB a 0 (some (mn - 1))), h) := fun h => l_num (fuel := fuel) (k := k) (by omega) a ca 0 (mn - 1) h
      have n0b : ∀ h, callC (tabF L fuel k 27) [b, .int 0, .non] h = some (.bl (numB b 0 none), h) := fun h => l_num0 (fuel := fuel) (k := k) (by omega) b cb 0 h
      have i0 : ∀ H, index (.tup [x, a, b]) (.int 0) H = some x := fun H => ixs (n := 0) rfl H
      have i1 : ∀ H, index (.tup [x, a, b]) (.int 1) H = some a := fun H => ixs (n := 1) rfl H
      have i2 : ∀ H, index (.tup [x, a, b]) (.int 2) H = some b := fun H => ixs (n := 2) rfl H
      have hlen : ∀ H, bltf .len [.tup [x, a, b]] H = some (.int 3) := fun _ => rfl
      have hst : ∀ (n : Int) (hn : (1 ≤ n) = True) w H, callC (tabF L fuel k 29) [.tup [x, a, b], .int n, .str w] H = some (.bl ((((3 : Int)) == n) && hw x w), H) := hst
      have hsp : letB mn (.tup [x, a, b]) = (hw x "agree" && numB a 0 (some (mn - 1))) := rfl
      rw [hsp]; clear hsp
      simp only [isT] at ht
      generalize D.tup [x, a, b] = V at *
      generalize numB a 0 (some (mn - 1)) = B0 at *
      generalize numB b 0 none = B1 at *
      by_cases w0 : x = .str "agree"
      · subst w0
        cases B0 with
        | false => (simp [d__law_is_letter, b__law_is_letter, hst, ht, nma, n0b, i0, i1, i2, hlen, hw, -PyD.is_non, Bool.or_false, Bool.and_false]; try exact fin_0 rfl)
        | true =>
          (simp [d__law_is_letter, b__law_is_letter, hst, ht, nma, n0b, i0, i1, i2, hlen, hw, -PyD.is_non, Bool.or_false, Bool.and_false]; try exact fin_0 rfl)
      have w0 := hw_ne w0
      cases B0 with
      | false => (simp [d__law_is_letter, b__law_is_letter, hst, ht, nma, n0b, i0, i1, i2, hlen, w0, -PyD.is_non, Bool.or_false, Bool.and_false]; try exact fin_0 rfl)
      | true =>
        cases B1 with
        | false => (simp [d__law_is_letter, b__law_is_letter, hst, ht, nma, n0b, i0, i1, i2, hlen, w0, -PyD.is_non, Bool.or_false, Bool.and_false]; try exact fin_0 rfl)
        | true =>
          (simp [d__law_is_letter, b__law_is_letter, hst, ht, nma, n0b, i0, i1, i2, hlen, w0, -PyD.is_non, Bool.or_false, Bool.and_false]; try exact fin_0 rfl)
    | [x, a, b, c], hc, hs, hd =>
      have cx : closed x = true := cl_at hc (by simp)
      have ca : closed a = true := cl_at hc (by simp)
      have sa : smD a = true := smD_at hs (by simp)
      have da : depD a ≤ 50 := dep_at hd (by simp)
      have cb : closed b = true := cl_at hc (by simp)
      have sb : smD b = true := smD_at hs (by simp)
      have db : depD b ≤ 50 := dep_at hd (by simp)
      have cc : closed c = true := cl_at hc (by simp)
      have sc : smD c = true := smD_at hs (by simp)
      have dc : depD c ≤ 50 := dep_at hd (by simp)
      have n0a : ∀ h, callC (tabF L fuel k 27) [a, .int 0, .non] h = some (.bl (numB a 0 none), h) := fun h => l_num0 (fuel := fuel) (k := k) (by omega) a ca 0 h
      have nma : ∀ h, callC (tabF L fuel k 27) [a, .int 0, .int (mn - 1)] h = some (.bl (numB a 0 (some (mn - 1))), h) := fun h => l_num (fuel := fuel) (k := k) (by omega) a ca 0 (mn - 1) h
      have n0b : ∀ h, callC (tabF L fuel k 27) [b, .int 0, .non] h = some (.bl (numB b 0 none), h) := fun h => l_num0 (fuel := fuel) (k := k) (by omega) b cb 0 h
      have n0c : ∀ h, callC (tabF L fuel k 27) [c, .int 0, .non] h = some (.bl (numB c 0 none), h) := fun h => l_num0 (fuel := fuel) (k := k) (by omega) c cc 0 h
      have bob : ∀ h, callC (tabF L fuel k 31) [.int mn, b] h = some (.bl (bodyB mn b), h) := fun h => l_body2 (fuel := fuel) (k := k) (by omega) mn b cb sb db h
      have chc : ∀ h, callC (tabF L fuel k 30) [c] h = some (.bl (choB c), h) := fun h => l_choice2 (fuel := fuel) (k := k) (by omega) c cc sc dc h
      have i0 : ∀ H, index (.tup [x, a, b, c]) (.int 0) H = some x := fun H => ixs (n := 0) rfl H
      have i1 : ∀ H, index (.tup [x, a, b, c]) (.int 1) H = some a := fun H => ixs (n := 1) rfl H
      have i2 : ∀ H, index (.tup [x, a, b, c]) (.int 2) H = some b := fun H => ixs (n := 2) rfl H
      have i3 : ∀ H, index (.tup [x, a, b, c]) (.int 3) H = some c := fun H => ixs (n := 3) rfl H
      have hlen : ∀ H, bltf .len [.tup [x, a, b, c]] H = some (.int 4) := fun _ => rfl
      have hst : ∀ (n : Int) (hn : (1 ≤ n) = True) w H, callC (tabF L fuel k 29) [.tup [x, a, b, c], .int n, .str w] H = some (.bl ((((4 : Int)) == n) && hw x w), H) := hst
      have hsp : letB mn (.tup [x, a, b, c]) = ((hw x "row" && numB a 0 none && bodyB mn b && numB c 0 none) || (hw x "took" && numB a 0 (some (mn - 1)) && numB b 0 none && numB c 0 none) || (numB a 0 (some (mn - 1)) && numB b 0 none && ((hw x "seen" && choB c) || (hw x "heard" && numB c 0 none)))) := rfl
      rw [hsp]; clear hsp
      simp only [isT] at ht
      generalize D.tup [x, a, b, c] = V at *
      generalize numB a 0 none = B0 at *
      generalize numB a 0 (some (mn - 1)) = B1 at *
      generalize numB b 0 none = B2 at *
      generalize numB c 0 none = B3 at *
      generalize bodyB mn b = B4 at *
      generalize choB c = B5 at *
      by_cases w0 : x = .str "row"
      · subst w0
        cases B0 with
        | false => (simp [d__law_is_letter, b__law_is_letter, hst, ht, n0a, nma, n0b, n0c, bob, chc, i0, i1, i2, i3, hlen, hw, -PyD.is_non, Bool.or_false, Bool.and_false]; try exact fin_0 rfl)
        | true =>
          cases B4 with
          | false => (simp [d__law_is_letter, b__law_is_letter, hst, ht, n0a, nma, n0b, n0c, bob, chc, i0, i1, i2, i3, hlen, hw, -PyD.is_non, Bool.or_false, Bool.and_false]; try exact fin_0 rfl)
          | true =>
            (simp [d__law_is_letter, b__law_is_letter, hst, ht, n0a, nma, n0b, n0c, bob, chc, i0, i1, i2, i3, hlen, hw, -PyD.is_non, Bool.or_false, Bool.and_false]; try exact fin_0 rfl)
      have w0 := hw_ne w0
      by_cases w1 : x = .str "seen"
      · subst w1
        cases B1 with
        | false => (simp [d__law_is_letter, b__law_is_letter, hst, ht, n0a, nma, n0b, n0c, bob, chc, i0, i1, i2, i3, hlen, w0, hw, -PyD.is_non, Bool.or_false, Bool.and_false]; try exact fin_0 rfl)
        | true =>
          cases B2 with
          | false => (simp [d__law_is_letter, b__law_is_letter, hst, ht, n0a, nma, n0b, n0c, bob, chc, i0, i1, i2, i3, hlen, w0, hw, -PyD.is_non, Bool.or_false, Bool.and_false]; try exact fin_0 rfl)
          | true =>
            (simp [d__law_is_letter, b__law_is_letter, hst, ht, n0a, nma, n0b, n0c, bob, chc, i0, i1, i2, i3, hlen, w0, hw, -PyD.is_non, Bool.or_false, Bool.and_false]; try exact fin_0 rfl)
      have w1 := hw_ne w1
      by_cases w2 : x = .str "took"
      · subst w2
        cases B1 with
        | false => (simp [d__law_is_letter, b__law_is_letter, hst, ht, n0a, nma, n0b, n0c, bob, chc, i0, i1, i2, i3, hlen, w0, w1, hw, -PyD.is_non, Bool.or_false, Bool.and_false]; try exact fin_0 rfl)
        | true =>
          cases B2 with
          | false => (simp [d__law_is_letter, b__law_is_letter, hst, ht, n0a, nma, n0b, n0c, bob, chc, i0, i1, i2, i3, hlen, w0, w1, hw, -PyD.is_non, Bool.or_false, Bool.and_false]; try exact fin_0 rfl)
          | true =>
            (simp [d__law_is_letter, b__law_is_letter, hst, ht, n0a, nma, n0b, n0c, bob, chc, i0, i1, i2, i3, hlen, w0, w1, hw, -PyD.is_non, Bool.or_false, Bool.and_false]; try exact fin_0 rfl)
      have w2 := hw_ne w2
      by_cases w3 : x = .str "heard"
      · subst w3
        cases B1 with
        | false => (simp [d__law_is_letter, b__law_is_letter, hst, ht, n0a, nma, n0b, n0c, bob, chc, i0, i1, i2, i3, hlen, w0, w1, w2, hw, -PyD.is_non, Bool.or_false, Bool.and_false]; try exact fin_0 rfl)
        | true =>
          cases B2 with
          | false => (simp [d__law_is_letter, b__law_is_letter, hst, ht, n0a, nma, n0b, n0c, bob, chc, i0, i1, i2, i3, hlen, w0, w1, w2, hw, -PyD.is_non, Bool.or_false, Bool.and_false]; try exact fin_0 rfl)
          | true =>
            (simp [d__law_is_letter, b__law_is_letter, hst, ht, n0a, nma, n0b, n0c, bob, chc, i0, i1, i2, i3, hlen, w0, w1, w2, hw, -PyD.is_non, Bool.or_false, Bool.and_false]; try exact fin_0 rfl)
      have w3 := hw_ne w3
      cases B1 with
      | false => (simp [d__law_is_letter, b__law_is_letter, hst, ht, n0a, nma, n0b, n0c, bob, chc, i0, i1, i2, i3, hlen, w0, w1, w2, w3, -PyD.is_non, Bool.or_false, Bool.and_false]; try exact fin_0 rfl)
      | true =>
        cases B2 with
        | false => (simp [d__law_is_letter, b__law_is_letter, hst, ht, n0a, nma, n0b, n0c, bob, chc, i0, i1, i2, i3, hlen, w0, w1, w2, w3, -PyD.is_non, Bool.or_false, Bool.and_false]; try exact fin_0 rfl)
        | true =>
          (simp [d__law_is_letter, b__law_is_letter, hst, ht, n0a, nma, n0b, n0c, bob, chc, i0, i1, i2, i3, hlen, w0, w1, w2, w3, -PyD.is_non, Bool.or_false, Bool.and_false]; try exact fin_0 rfl)
    | [x, a, b, c, d], hc, hs, hd =>
      have cx : closed x = true := cl_at hc (by simp)
      have ca : closed a = true := cl_at hc (by simp)
      have sa : smD a = true := smD_at hs (by simp)
      have da : depD a ≤ 50 := dep_at hd (by simp)
      have cb : closed b = true := cl_at hc (by simp)
      have sb : smD b = true := smD_at hs (by simp)
      have db : depD b ≤ 50 := dep_at hd (by simp)
      have cc : closed c = true := cl_at hc (by simp)
      have sc : smD c = true := smD_at hs (by simp)
      have dc : depD c ≤ 50 := dep_at hd (by simp)
      have cd : closed d = true := cl_at hc (by simp)
      have sd : smD d = true := smD_at hs (by simp)
      have dd : depD d ≤ 50 := dep_at hd (by simp)
      have nma : ∀ h, callC (tabF L fuel k 27) [a, .int 0, .int (mn - 1)] h = some (.bl (numB a 0 (some (mn - 1))), h) := fun h => l_num (fuel := fuel) (k := k) (by omega) a ca 0 (mn - 1) h
      have n0b : ∀ h, callC (tabF L fuel k 27) [b, .int 0, .non] h = some (.bl (numB b 0 none), h) := fun h => l_num0 (fuel := fuel) (k := k) (by omega) b cb 0 h
      have i0 : ∀ H, index (.tup [x, a, b, c, d]) (.int 0) H = some x := fun H => ixs (n := 0) rfl H
      have i1 : ∀ H, index (.tup [x, a, b, c, d]) (.int 1) H = some a := fun H => ixs (n := 1) rfl H
      have i2 : ∀ H, index (.tup [x, a, b, c, d]) (.int 2) H = some b := fun H => ixs (n := 2) rfl H
      have i3 : ∀ H, index (.tup [x, a, b, c, d]) (.int 3) H = some c := fun H => ixs (n := 3) rfl H
      have i4 : ∀ H, index (.tup [x, a, b, c, d]) (.int 4) H = some d := fun H => ixs (n := 4) rfl H
      have hlen : ∀ H, bltf .len [.tup [x, a, b, c, d]] H = some (.int 5) := fun _ => rfl
      have hst : ∀ (n : Int) (hn : (1 ≤ n) = True) w H, callC (tabF L fuel k 29) [.tup [x, a, b, c, d], .int n, .str w] H = some (.bl ((((5 : Int)) == n) && hw x w), H) := hst
      have hsp : letB mn (.tup [x, a, b, c, d]) = false := rfl
      rw [hsp]; clear hsp
      simp only [isT] at ht
      generalize D.tup [x, a, b, c, d] = V at *
      generalize numB a 0 (some (mn - 1)) = B0 at *
      generalize numB b 0 none = B1 at *
      cases B0 with
      | false => (simp [d__law_is_letter, b__law_is_letter, hst, ht, nma, n0b, i0, i1, i2, i3, i4, hlen, -PyD.is_non, Bool.or_false, Bool.and_false]; try exact fin_0 rfl)
      | true =>
        cases B1 with
        | false => (simp [d__law_is_letter, b__law_is_letter, hst, ht, nma, n0b, i0, i1, i2, i3, i4, hlen, -PyD.is_non, Bool.or_false, Bool.and_false]; try exact fin_0 rfl)
        | true =>
          (simp [d__law_is_letter, b__law_is_letter, hst, ht, nma, n0b, i0, i1, i2, i3, i4, hlen, -PyD.is_non, Bool.or_false, Bool.and_false]; try exact fin_0 rfl)
    | [x, a, b, c, d, e], hc, hs, hd =>
      have cx : closed x = true := cl_at hc (by simp)
      have ca : closed a = true := cl_at hc (by simp)
      have sa : smD a = true := smD_at hs (by simp)
      have da : depD a ≤ 50 := dep_at hd (by simp)
      have cb : closed b = true := cl_at hc (by simp)
      have sb : smD b = true := smD_at hs (by simp)
      have db : depD b ≤ 50 := dep_at hd (by simp)
      have cc : closed c = true := cl_at hc (by simp)
      have sc : smD c = true := smD_at hs (by simp)
      have dc : depD c ≤ 50 := dep_at hd (by simp)
      have cd : closed d = true := cl_at hc (by simp)
      have sd : smD d = true := smD_at hs (by simp)
      have dd : depD d ≤ 50 := dep_at hd (by simp)
      have ce : closed e = true := cl_at hc (by simp)
      have se : smD e = true := smD_at hs (by simp)
      have de : depD e ≤ 50 := dep_at hd (by simp)
      have nma : ∀ h, callC (tabF L fuel k 27) [a, .int 0, .int (mn - 1)] h = some (.bl (numB a 0 (some (mn - 1))), h) := fun h => l_num (fuel := fuel) (k := k) (by omega) a ca 0 (mn - 1) h
      have n0b : ∀ h, callC (tabF L fuel k 27) [b, .int 0, .non] h = some (.bl (numB b 0 none), h) := fun h => l_num0 (fuel := fuel) (k := k) (by omega) b cb 0 h
      have chc : ∀ h, callC (tabF L fuel k 30) [c] h = some (.bl (choB c), h) := fun h => l_choice2 (fuel := fuel) (k := k) (by omega) c cc sc dc h
      have n0d : ∀ h, callC (tabF L fuel k 27) [d, .int 0, .non] h = some (.bl (numB d 0 none), h) := fun h => l_num0 (fuel := fuel) (k := k) (by omega) d cd 0 h
      have n2e : ∀ h, callC (tabF L fuel k 28) [e, .int 2] h = some (.bl (numsN e 2), h) := fun h => l_nums2 (fuel := fuel) (k := k) (by omega) e ce se h
      have i0 : ∀ H, index (.tup [x, a, b, c, d, e]) (.int 0) H = some x := fun H => ixs (n := 0) rfl H
      have i1 : ∀ H, index (.tup [x, a, b, c, d, e]) (.int 1) H = some a := fun H => ixs (n := 1) rfl H
      have i2 : ∀ H, index (.tup [x, a, b, c, d, e]) (.int 2) H = some b := fun H => ixs (n := 2) rfl H
      have i3 : ∀ H, index (.tup [x, a, b, c, d, e]) (.int 3) H = some c := fun H => ixs (n := 3) rfl H
      have i4 : ∀ H, index (.tup [x, a, b, c, d, e]) (.int 4) H = some d := fun H => ixs (n := 4) rfl H
      have i5 : ∀ H, index (.tup [x, a, b, c, d, e]) (.int 5) H = some e := fun H => ixs (n := 5) rfl H
      have hlen : ∀ H, bltf .len [.tup [x, a, b, c, d, e]] H = some (.int 6) := fun _ => rfl
      have hst : ∀ (n : Int) (hn : (1 ≤ n) = True) w H, callC (tabF L fuel k 29) [.tup [x, a, b, c, d, e], .int n, .str w] H = some (.bl ((((6 : Int)) == n) && hw x w), H) := hst
      have hsp : letB mn (.tup [x, a, b, c, d, e]) = (hw x "ask" && numB a 0 (some (mn - 1)) && numB b 0 none && choB c && numB d 0 none && numsN e 2) := rfl
      rw [hsp]; clear hsp
      simp only [isT] at ht
      generalize D.tup [x, a, b, c, d, e] = V at *
      generalize numB a 0 (some (mn - 1)) = B0 at *
      generalize numB b 0 none = B1 at *
      generalize choB c = B2 at *
      generalize numB d 0 none = B3 at *
      generalize numsN e 2 = B4 at *
      by_cases w0 : x = .str "ask"
      · subst w0
        cases B0 with
        | false => (simp [d__law_is_letter, b__law_is_letter, hst, ht, nma, n0b, chc, n0d, n2e, i0, i1, i2, i3, i4, i5, hlen, hw, -PyD.is_non, Bool.or_false, Bool.and_false]; try exact fin_0 rfl)
        | true =>
          cases B1 with
          | false => (simp [d__law_is_letter, b__law_is_letter, hst, ht, nma, n0b, chc, n0d, n2e, i0, i1, i2, i3, i4, i5, hlen, hw, -PyD.is_non, Bool.or_false, Bool.and_false]; try exact fin_0 rfl)
          | true =>
            cases B2 with
            | false => (simp [d__law_is_letter, b__law_is_letter, hst, ht, nma, n0b, chc, n0d, n2e, i0, i1, i2, i3, i4, i5, hlen, hw, -PyD.is_non, Bool.or_false, Bool.and_false]; try exact fin_0 rfl)
            | true =>
              cases B3 with
              | false => (simp [d__law_is_letter, b__law_is_letter, hst, ht, nma, n0b, chc, n0d, n2e, i0, i1, i2, i3, i4, i5, hlen, hw, -PyD.is_non, Bool.or_false, Bool.and_false]; try exact fin_0 rfl)
              | true =>
                (simp [d__law_is_letter, b__law_is_letter, hst, ht, nma, n0b, chc, n0d, n2e, i0, i1, i2, i3, i4, i5, hlen, hw, -PyD.is_non, Bool.or_false, Bool.and_false]; try exact fin_0 rfl)
      have w0 := hw_ne w0
      cases B0 with
      | false => (simp [d__law_is_letter, b__law_is_letter, hst, ht, nma, n0b, chc, n0d, n2e, i0, i1, i2, i3, i4, i5, hlen, w0, -PyD.is_non, Bool.or_false, Bool.and_false]; try exact fin_0 rfl)
      | true =>
        cases B1 with
        | false => (simp [d__law_is_letter, b__law_is_letter, hst, ht, nma, n0b, chc, n0d, n2e, i0, i1, i2, i3, i4, i5, hlen, w0, -PyD.is_non, Bool.or_false, Bool.and_false]; try exact fin_0 rfl)
        | true =>
          (simp [d__law_is_letter, b__law_is_letter, hst, ht, nma, n0b, chc, n0d, n2e, i0, i1, i2, i3, i4, i5, hlen, w0, -PyD.is_non, Bool.or_false, Bool.and_false]; try exact fin_0 rfl)
    | x :: a :: b :: c :: d :: e :: f :: r, hc, hs, hd =>
      have ca : closed a = true := cl_at hc (by simp)
      have sa : smD a = true := smD_at hs (by simp)
      have da : depD a ≤ 50 := dep_at hd (by simp)
      have cb : closed b = true := cl_at hc (by simp)
      have sb : smD b = true := smD_at hs (by simp)
      have db : depD b ≤ 50 := dep_at hd (by simp)
      have cc : closed c = true := cl_at hc (by simp)
      have sc : smD c = true := smD_at hs (by simp)
      have dc : depD c ≤ 50 := dep_at hd (by simp)
      have cd : closed d = true := cl_at hc (by simp)
      have sd : smD d = true := smD_at hs (by simp)
      have dd : depD d ≤ 50 := dep_at hd (by simp)
      have ce : closed e = true := cl_at hc (by simp)
      have se : smD e = true := smD_at hs (by simp)
      have de : depD e ≤ 50 := dep_at hd (by simp)
      have nma : ∀ h, callC (tabF L fuel k 27) [a, .int 0, .int (mn - 1)] h = some (.bl (numB a 0 (some (mn - 1))), h) := fun h => l_num (fuel := fuel) (k := k) (by omega) a ca 0 (mn - 1) h
      have n0b : ∀ h, callC (tabF L fuel k 27) [b, .int 0, .non] h = some (.bl (numB b 0 none), h) := fun h => l_num0 (fuel := fuel) (k := k) (by omega) b cb 0 h
      have i0 : ∀ H, index (.tup (x :: a :: b :: c :: d :: e :: f :: r)) (.int 0) H = some x := fun H => ixs (n := 0) rfl H
      have i1 : ∀ H, index (.tup (x :: a :: b :: c :: d :: e :: f :: r)) (.int 1) H = some a := fun H => ixs (n := 1) rfl H
      have i2 : ∀ H, index (.tup (x :: a :: b :: c :: d :: e :: f :: r)) (.int 2) H = some b := fun H => ixs (n := 2) rfl H
      have i3 : ∀ H, index (.tup (x :: a :: b :: c :: d :: e :: f :: r)) (.int 3) H = some c := fun H => ixs (n := 3) rfl H
      have i4 : ∀ H, index (.tup (x :: a :: b :: c :: d :: e :: f :: r)) (.int 4) H = some d := fun H => ixs (n := 4) rfl H
      have hlen : ∀ H, bltf .len [.tup (x :: a :: b :: c :: d :: e :: f :: r)] H = some (.int ((r.length : Nat) + 7 : Int)) := fun H => by rw [len_tup]; simp; omega
      have hst2 : ∀ (n : Int) (hn : (1 ≤ n) = True) (h2 : (n ≤ 6) = True) w H, callC (tabF L fuel k 29) [.tup (x :: a :: b :: c :: d :: e :: f :: r), .int n, .str w] H = some (.bl false, H) := fun n hn h2 w H => by
        rw [hst n hn w H, show st (.tup (x :: a :: b :: c :: d :: e :: f :: r)) n w = false from by simp only [st, Bool.and_eq_false_iff, beq_eq_false_iff_ne]; left; simp at h2 ⊢; omega]
      have m3 : decide (((r.length : Nat) : Int) + 7 < 3) = false := by simp; omega
      have m3b : ¬ (((r.length : Nat) : Int) + 7 < 3) := by omega
      have m4 : decide (((r.length : Nat) : Int) + 7 < 4) = false := by simp; omega
      have m4b : ¬ (((r.length : Nat) : Int) + 7 < 4) := by omega
      have m5 : decide (((r.length : Nat) : Int) + 7 < 5) = false := by simp; omega
      have m5b : ¬ (((r.length : Nat) : Int) + 7 < 5) := by omega
      rw [letB_7]
      generalize ((r.length : Nat) : Int) = LN at *
      clear hst
      simp only [isT] at ht
      generalize D.tup (x :: a :: b :: c :: d :: e :: f :: r) = V at *
      generalize numB a 0 (some (mn - 1)) = B0 at *
      generalize numB b 0 none = B1 at *
      cases B0 with
      | false => (simp [d__law_is_letter, b__law_is_letter, ht, nma, n0b, i0, i1, i2, i3, i4, hlen, hst2, m3, m3b, m4, m4b, m5, m5b, -PyD.is_non, Bool.or_false, Bool.and_false]; try exact fin_0 rfl)
      | true =>
        cases B1 with
        | false => (simp [d__law_is_letter, b__law_is_letter, ht, nma, n0b, i0, i1, i2, i3, i4, hlen, hst2, m3, m3b, m4, m4b, m5, m5b, -PyD.is_non, Bool.or_false, Bool.and_false]; try exact fin_0 rfl)
        | true =>
          (simp [d__law_is_letter, b__law_is_letter, ht, nma, n0b, i0, i1, i2, i3, i4, hlen, hst2, m3, m3b, m4, m4b, m5, m5b, -PyD.is_non, Bool.or_false, Bool.and_false]; try exact fin_0 rfl)
  | _ =>
    simp only [isT] at ht
    (simp [d__law_is_letter, b__law_is_letter, hst, ht, st, letB, hw, -PyD.is_non, Bool.or_false, Bool.and_false]; try exact fin_0 rfl)
theorem l_letter {k : Nat} (hk : 4 ≤ k) (mn : Int) (v : D) (hc : closed v = true) (hs : smD v = true) (hd : depD v ≤ 50) (h : AH) : callC (tabF L fuel k 32) [.int mn, v] h = some (.bl (letB mn v), h) := callV (by simp [hc, closeds, closed]) (l_letter_run hk mn v hc hs hd) rfl
end PyD.K55

namespace PyD.K55
open PyD
variable {fuel : Nat}
/-! ### octets -/
def SG : String := " !\"#$&'()*+,-./0123456789:;<=>?@ABCDEFGHIJKLMNOPQRSTUVWXYZ[\\]^_`abcdefghijklmnopqrstuvwxyz{|}~"
def okStr (s : String) : Bool := decide ((signs s).length ≤ 127) && decide (s.length ≤ 127) && (signs s).all fun b => (sIdx SG b).isSome
mutual
def pkD : D → Bool
  | .non => true
  | .bl _ => true
  | .int i => decide (-127 ≤ i) && decide (i ≤ 127)
  | .str s => okStr s
  | .tup ds => decide (ds.length ≤ 127) && pkDs ds
  | .lst _ => false | .rol _ => false | .ref _ => false | .fn _ => false
def pkDs : List D → Bool
  | [] => true
  | d :: ds => pkD d && pkDs ds
end
mutual
def szD : D → Nat
  | .tup ds => szDs ds + 1
  | .lst ds => szDs ds + 1
  | .rol ds => szDs ds + 1
  | .non => 1 | .bl _ => 1 | .int _ => 1 | .str _ => 1 | .ref _ => 1 | .fn _ => 1
def szDs : List D → Nat
  | [] => 0
  | d :: ds => szD d + szDs ds
end
def zsOf (bs : List String) : List D := bs.map fun b => .int (((sIdx SG b).getD 0 : Nat) : Int)
mutual
def flat : D → List D
  | .non => [.int 0]
  | .bl b => [.int (if b then 2 else 1)]
  | .int i => if 0 ≤ i then [.int 3, .int i] else [.int 4, .int (-i)]
  | .str s => .int 5 :: .int (s.length : Nat) :: zsOf (signs s)
  | .tup ds => .int 6 :: .int (ds.length : Nat) :: flats ds
  | .lst _ => [] | .rol _ => [] | .ref _ => [] | .fn _ => []
def flats : List D → List D
  | [] => []
  | d :: ds => flat d ++ flats ds
end
theorem flats_app : ∀ (xs ys : List D), flats (xs ++ ys) = flats xs ++ flats ys
  | [], ys => rfl
  | x :: xs, ys => by simp [flats, flats_app xs ys]
theorem pkDs_app : ∀ (xs ys : List D), pkDs (xs ++ ys) = (pkDs xs && pkDs ys)
  | [], ys => rfl
  | x :: xs, ys => by simp [pkDs, pkDs_app xs ys, Bool.and_assoc]
theorem szDs_app : ∀ (xs ys : List D), szDs (xs ++ ys) = szDs xs + szDs ys
  | [], ys => by simp [szDs]
  | x :: xs, ys => by simp [szDs, szDs_app xs ys]; omega
theorem pkDs_rev : ∀ (xs : List D), pkDs xs.reverse = pkDs xs
  | [] => rfl
  | x :: xs => by simp [pkDs_app, pkDs_rev xs, pkDs, Bool.and_comm]
theorem szDs_rev : ∀ (xs : List D), szDs xs.reverse = szDs xs
  | [] => rfl
  | x :: xs => by simp [szDs_app, szDs_rev xs, szDs]; omega
mutual
theorem pk_closed : ∀ d : D, pkD d = true → closed d = true
  | .non, _ => rfl
  | .bl _, _ => rfl
  | .int _, _ => rfl
  | .str _, _ => rfl
  | .tup ds, h => by
    simp only [pkD, Bool.and_eq_true] at h
    simp only [closed]
    exact pks_closed ds h.2
  | .lst _, h => by simp [pkD] at h
  | .rol _, h => by simp [pkD] at h
  | .ref _, h => by simp [pkD] at h
  | .fn _, h => by simp [pkD] at h
theorem pks_closed : ∀ ds : List D, pkDs ds = true → closeds ds = true
  | [], _ => rfl
  | d :: ds, h => by
    simp only [pkDs, Bool.and_eq_true] at h
    simp only [closeds, pk_closed d h.1, pks_closed ds h.2, Bool.and_self]
end
theorem pkDs_mem : ∀ {ds : List D} {x : D}, pkDs ds = true → x ∈ ds → pkD x = true
  | d :: ds, x, h, hm => by
    simp only [pkDs, Bool.and_eq_true] at h
    rcases List.mem_cons.mp hm with rfl | hm
    · exact h.1
    · exact pkDs_mem h.2 hm
theorem counted_run {k : Nat} (hk : 1 ≤ k) (hf : 1 ≤ fuel) (n : Int) (h0 : 0 ≤ n) (h1 : n ≤ 127) : tabF L fuel k 4 [.int n] [] = some (.lst [.int n], []) := by
  obtain ⟨k, rfl⟩ : ∃ m, k = m + 1 := ⟨k - 1, by omega⟩
  obtain ⟨f, rfl⟩ : ∃ m, fuel = m + 1 := ⟨fuel - 1, by omega⟩
  rw [tab_step (d := d_counted) rfl]
  have h2 : ¬ 127 < n := by omega
  simp [d_counted, b_counted, ex_whl, whileF, h2]
  rw [kCat2_ap (xs := []) (ys := [.int n]) rfl rfl (by simp [lim])]
  simp
  exact fin_v rfl
theorem c_counted {k : Nat} (hk : 1 ≤ k) (hf : 1 ≤ fuel) (n : Int) (h0 : 0 ≤ n) (h1 : n ≤ 127) (h : AH) : callC (tabF L fuel k 4) [.int n] h = some (.lst [.int n], h) := callV rfl (counted_run hk hf n h0 h1) rfl
/-! the loop -/
def pkW : Ss := match b_packed with
  | .cons _ (.cons (.whl _ b) _) => b
  | _ => .nil
def pkC : Ex := .cmp .gt (.blt .len (.cons (.var 2) .nil)) (.int 0)
theorem pk_split : b_packed = .cons (.par2 1 2 (.fm (.disp .nil)) (.fm (.disp (.cons (.var 0) .nil)))) (.cons (.whl pkC pkW) (.cons (.ret (.blt .tuple (.cons (.var 1) .nil))) .nil)) := rfl
def chW : Ss := .cons (.expr (.app (.var 1) (.sidx "SIGNS" SG (.var 4)))) .nil
theorem pop1 (f : List D) (ls : List D) (x : D) : popED (.ref 1) [.lst f, .lst (ls ++ [x])] = some (x, [.lst f, .lst ls]) := by
  simp [popED]
theorem allI_app {xs ys : List D} (h1 : xs.all isI = true) (h2 : ys.all isI = true) : (xs ++ ys).all isI = true := by
  rw [List.all_append, h1, h2]; rfl
theorem ext0 {ds r y ys} (q : mitems y (.lst ds :: r) = some ys) (hl : ds.length + ys.length ≤ lim) : kExt2 (.ref 0) (y, .lst ds :: r) = some (.non, .lst (ds ++ ys) :: r) := by
  rw [kExt2_ap (ds := ds) (by simp) q hl]; simp
theorem ext1 {x ds r y ys} (q : mitems y (x :: .lst ds :: r) = some ys) (hl : ds.length + ys.length ≤ lim) : kExt2 (.ref 1) (y, x :: .lst ds :: r) = some (.non, x :: .lst (ds ++ ys) :: r) := by
  rw [kExt2_ap (ds := ds) (by simp) q hl]; simp
theorem ch_loop {C : Nat → Fun} (σ0 σ3 : Option D) (ls : List D) (len : Nat) : ∀ (bs : List String) (i : Nat) (es : List D) (x4 : Option D), (∀ b ∈ bs, (sIdx SG b).isSome = true) → es.length + bs.length < 1000000 →
    ∃ y4, forL (.v 4) none len (exs C fuel chW) (bs.map .str) i [σ0, some (.ref 0), some (.ref 1), σ3, x4] [.lst es, .lst ls] = some (.nx, [σ0, some (.ref 0), some (.ref 1), σ3, y4], [.lst (es ++ zsOf bs), .lst ls])
  | [], i, es, x4, _, _ => ⟨x4, by simp [forL, okL, zsOf]⟩
  | b :: bs, i, es, x4, hb, hl => by
    have h1 := hb b (by simp)
    obtain ⟨j, hj⟩ := Option.isSome_iff_exists.1 h1
    obtain ⟨y4, e⟩ := ch_loop σ0 σ3 ls len bs (i + 1) (es ++ [.int (j : Nat)]) (some (.str b)) (fun c hc => hb c (by simp [hc])) (by simp at hl ⊢; omega)
    have happ : kApp2 (.ref 0) (.int (j : Nat), [.lst es, .lst ls]) = some (.non, [.lst (es ++ [.int (j : Nat)]), .lst ls]) := app_r0 (by simp [lim]; simp at hl; omega)
    refine ⟨y4, ?_⟩
    have hz : zsOf (b :: bs) = .int (j : Nat) :: zsOf bs := by simp [zsOf, hj]
    rw [hz]
    simp [forL, okL, cur, put, chW, hj, happ, litems] at e ⊢
    exact e
theorem ch_split : b_packed = b_packed := rfl
theorem pk_step {k : Nat} (hk : 1 ≤ k) (hf : 1 ≤ fuel) (σ0 x3 x4 : Option D) (es ls : List D) (x : D) (hx : pkD x = true) (he : es.all isI = true) (hl : es.length < 100000) (hll : ls.length < 100000) :
    ∃ y4 oc ys, exs (tabF L fuel k) fuel pkW [σ0, some (.ref 0), some (.ref 1), x3, x4] [.lst es, .lst (ls ++ [x])] = some (.nx, [σ0, some (.ref 0), some (.ref 1), some x, y4], [.lst (es ++ oc), .lst (ls ++ ys)]) ∧ flat x = oc ++ flats ys.reverse ∧ oc.all isI = true ∧ oc.length ≤ 200 ∧ ys.length ≤ 127 ∧ pkDs ys = true ∧ szDs ys < szD x := by
  have hpop := pop1 es ls x
  have hlen : bltf .len [.ref 1] [.lst es, .lst (ls ++ [x])] = some (.int (((ls ++ [x]).length : Nat) : Int)) := len_r1 _ _ _
  have la : es.length < lim := by simp [lim]; omega
  have ha : ∀ y, kApp2 (.ref 0) (y, [.lst es, .lst ls]) = some (.non, [.lst (es ++ [y]), .lst ls]) := fun y => app_r0 la
  have hx0 : ∀ a b : D, kExt2 (.ref 0) (.lst [a, b], [.lst es, .lst ls]) = some (.non, [.lst (es ++ [a, b]), .lst ls]) := fun a b => ext0 rfl (by simp [lim]; omega)
  have hcat : ∀ (a b : D) (H : AH), kCat2 (.lst [a]) (.lst [b], H) = some ([a, b], H) := fun a b H => kCat2_ap (xs := [a]) (ys := [b]) rfl rfl (by simp [lim])
  have ci := fun h => c_isint (fuel := fuel) (k := k) (by omega) x (pk_closed x hx) h
  cases x with
  | non =>
    refine ⟨x4, [.int 0], [], ?_, by simp [flat, flats], rfl, by simp, by simp, rfl, by simp [szDs, szD]⟩
    simp [pkW, b_packed, hpop, ha, litems]
  | bl b =>
    refine ⟨x4, [.int (if b then 2 else 1)], [], ?_, by simp [flat, flats], rfl, by simp, by simp, rfl, by simp [szDs, szD]⟩
    cases b <;> simp [pkW, b_packed, hpop, ha, litems]
  | int i =>
    simp only [pkD, Bool.and_eq_true, decide_eq_true_eq] at hx
    simp only [isI] at ci
    by_cases h0 : 0 ≤ i
    · have cc := fun h => c_counted (fuel := fuel) (k := k) hk hf i h0 hx.2 h
      have ab : ∀ H, bltf .abs [.int i] H = some (.int i) := fun H => by simp; omega
      refine ⟨x4, [.int 3, .int i], [], ?_, by simp [flat, flats, h0], rfl, by simp, by simp, rfl, by simp [szDs, szD]⟩
      simp only [List.append_nil]
      simp [pkW, b_packed, hpop, hx0, litems, ci, h0, cc, ab, hcat]
    · have cc := fun h => c_counted (fuel := fuel) (k := k) hk hf (-i) (by omega) (by omega) h
      have ab : ∀ H, bltf .abs [.int i] H = some (.int (-i)) := fun H => by simp; omega
      refine ⟨x4, [.int 4, .int (-i)], [], ?_, by simp [flat, flats, h0], rfl, by simp, by simp, rfl, by simp [szDs, szD]⟩
      simp only [List.append_nil]
      simp [pkW, b_packed, hpop, hx0, litems, ci, h0, cc, ab, hcat]
  | str s =>
    simp only [pkD, okStr, Bool.and_eq_true, decide_eq_true_eq, List.all_eq_true] at hx
    simp only [isI] at ci
    have cc := fun h => c_counted (fuel := fuel) (k := k) hk hf (s.length : Nat) (by omega) (by omega) h
    have ab : ∀ H, bltf .len [.str s] H = some (.int (s.length : Nat)) := fun H => if_pos (by simp [lim]; omega)
    obtain ⟨y4, e⟩ := ch_loop (fuel := fuel) (C := tabF L fuel k) σ0 (some (.str s)) ls (signs s).length (signs s) 0 (es ++ [.int 5, .int (s.length : Nat)]) x4 hx.2 (by simp; omega)
    refine ⟨y4, [.int 5, .int (s.length : Nat)] ++ zsOf (signs s), [], ?_, by simp [flat, flats], by simp [zsOf, isI], by simp [zsOf]; omega, by simp, rfl, by simp [szDs, szD]⟩
    simp [chW, SG] at e
    simp [pkW, b_packed, hpop, hx0, litems, ci, cc, ab, hcat, isTy, kFor_ap, SG]
    rw [e]
    simp
  | tup ds =>
    simp only [pkD, Bool.and_eq_true, decide_eq_true_eq] at hx
    simp only [isI] at ci
    have cc := fun h => c_counted (fuel := fuel) (k := k) hk hf (ds.length : Nat) (by omega) (by omega) h
    have ab : ∀ H, bltf .len [.tup ds] H = some (.int (ds.length : Nat)) := fun H => rfl
    have hx1 : kExt2 (.ref 1) (.lst ds.reverse, [.lst (es ++ [.int 6, .int (ds.length : Nat)]), .lst ls]) = some (.non, [.lst (es ++ [.int 6, .int (ds.length : Nat)]), .lst (ls ++ ds.reverse)]) := ext1 rfl (by simp [lim]; omega)
    refine ⟨x4, [.int 6, .int (ds.length : Nat)], ds.reverse, ?_, by simp [flat], rfl, by simp, by simp; omega, by rw [pkDs_rev]; exact hx.2, by rw [szDs_rev]; simp [szD]⟩
    simp [pkW, b_packed, hpop, hx0, litems, ci, cc, ab, hcat, isTy, hx1]
  | lst ds => simp [pkD] at hx
  | rol ds => simp [pkD] at hx
  | ref n => simp [pkD] at hx
  | fn n => simp [pkD] at hx
theorem szD_pos : ∀ d : D, 1 ≤ szD d := fun d => by cases d <;> simp [szD]
theorem len_sz : ∀ ds : List D, ds.length ≤ szDs ds
  | [] => by simp
  | d :: ds => by have := szD_pos d; have := len_sz ds; simp [szDs]; omega
theorem ints_of {es : List D} (h : es.all isI = true) : ∃ ns : List Int, es = ns.map .int := by
  obtain ⟨l, e, _⟩ := list_of D.int (fun _ => True) (ds := es) fun d hd => by
    have := (List.all_eq_true.1 h) d hd
    cases d with
    | int i => exact ⟨i, rfl, trivial⟩
    | _ => simp [isI] at this
  exact ⟨l, e⟩
theorem packed_run {k : Nat} (hk : 2 ≤ k) (hf : 302 ≤ fuel) (v : D) (hv : pkD v = true) (hz : szD v ≤ 300) : tabF L fuel k 5 [v] [] = some (.tup (flat v), []) ∧ (flat v).all isI = true ∧ (flat v).length < 100000 := by
  obtain ⟨k, rfl⟩ : ∃ m, k = m + 1 := ⟨k - 1, by omega⟩
  obtain ⟨f, σ', h', e, p⟩ := while_ok (c := tst (tabF L fuel k) pkC) (b := exs (tabF L fuel k) fuel pkW)
    (fun n σ h => ∃ x3 x4 es ls, σ = [some v, some (.ref 0), some (.ref 1), x3, x4] ∧ h = [.lst es, .lst ls] ∧ es.all isI = true ∧ pkDs ls = true ∧ szDs ls = n ∧ n ≤ 300 ∧ es.length + 200 * n ≤ 60000 ∧ es ++ flats ls.reverse = flat v)
    (fun f σ h => f = .nx ∧ ∃ x3 x4 es, σ = [some v, some (.ref 0), some (.ref 1), x3, x4] ∧ h = [.lst es, .lst []] ∧ es.all isI = true ∧ es.length < 100000 ∧ es = flat v)
    (fun n σ h ⟨x3, x4, es, ls, e1, e2, e3, e4, e5, e6, e7, e8⟩ => by
      subst e1; subst e2
      rcases List.eq_nil_or_concat ls with rfl | ⟨init, x, rfl⟩
      · left
        exact ⟨_, by simp [pkC, kTst], rfl, x3, x4, es, rfl, rfl, e3, by omega, by simpa [flats] using e8⟩
      · right
        simp only [List.concat_eq_append] at e4 e5 e8 ⊢
        rw [pkDs_app] at e4
        rw [szDs_app] at e5
        simp only [Bool.and_eq_true, pkDs, and_true] at e4
        simp only [szDs, Nat.add_zero] at e5
        have hil := len_sz init
        obtain ⟨y4, oc, ys, ee, a0, a1, a2, a3, a4, a5⟩ := pk_step (fuel := fuel) (k := k) (by omega) (by omega) (some v) x3 x4 es init x e4.2 e3 (by omega) (by omega)
        refine ⟨_, .nx, _, _, ?_, ee, ?_⟩
        · have : ∀ H, bltf .len [.ref 1] (H :: .lst (init ++ [x]) :: []) = some (.int (((init ++ [x]).length : Nat) : Int)) := fun H => len_r1 _ _ _
          simp [pkC, kTst]
        · refine ⟨szDs (init ++ ys), ?_, some x, y4, es ++ oc, init ++ ys, rfl, rfl, allI_app e3 a1, ?_, rfl, ?_, ?_, ?_⟩
          · rw [szDs_app]; omega
          · rw [pkDs_app, e4.1, a4]; rfl
          · rw [szDs_app]; omega
          · rw [szDs_app]; simp; omega
          · rw [← e8]
            simp [flats_app, flats, a0])
    fuel (szD v) [some v, some (.ref 0), some (.ref 1), none, none] [.lst [], .lst [v]] (by omega) ⟨none, none, [], [v], rfl, rfl, rfl, by simp [pkDs, hv], by simp [szDs], hz, by simp; omega, by simp [flats]⟩
  obtain ⟨rfl, x3, x4, es, rfl, rfl, hi, hl, rfl⟩ := p
  refine ⟨?_, hi, hl⟩
  rw [tab_step (d := d_packed) rfl]
  show (exs (tabF L fuel k) fuel b_packed _ []).bind (kRun false 0) = _
  rw [pk_split]
  have hc : closeds (flat v) = true := by
    obtain ⟨ns, hn⟩ := ints_of hi
    rw [hn]
    exact closeds_map D.int (fun _ => rfl) ns
  simp [d_packed, ex_whl]
  rw [e]
  simp
  exact fin_v (by simpa [closed] using hc)
end PyD.K55

namespace PyD.K55
open PyD
variable {fuel : Nat}
/-! ### sums -/
def toI : D → Int
  | .int i => i
  | _ => 0
def stp (a : Int) (x : D) : Int := (a * 1000003 + toI x + 1) % 2305843009213693951
def chn (a : Int) (v : D) : Int := (flat v).foldl stp a
def sumO (bs : List D) : Int := bs.foldl chn 0
theorem fold_loop {α β : Type} {tg : Tg} {len : Nat} {b : Sl → AH → Option (Fl × Sl × AH)} {h : AH} (f : α → D → α) (S : α → β → Sl) : ∀ (L : List D) (i : Nat) (a : α) (y : β),
    (∀ x ∈ L, ∀ a y, ∃ σ1, put tg x (S a y) = some σ1 ∧ ∃ y', b σ1 h = some (.nx, S (f a x) y', h)) → ∃ y', forL tg none len b L i (S a y) h = some (.nx, S (L.foldl f a) y', h)
  | [], i, a, y, _ => ⟨y, by simp [forL, okL]⟩
  | x :: L, i, a, y, q => by
    obtain ⟨σ1, e1, y1, e2⟩ := q x (by simp) a y
    obtain ⟨y2, e3⟩ := fold_loop (len := len) f S L (i + 1) (f a x) y1 fun z hz => q z (by simp [hz])
    exact ⟨y2, by simp [forL, okL, cur, e1, e2, e3]⟩
theorem isI_int {es : List D} (h : es.all isI = true) {x : D} (hx : x ∈ es) : x = .int (toI x) := by
  have := (List.all_eq_true.1 h) x hx
  cases x with
  | int i => rfl
  | _ => simp [isI] at this
theorem c_packed {k : Nat} (hk : 2 ≤ k) (hf : 302 ≤ fuel) (v : D) (hv : pkD v = true) (hz : szD v ≤ 300) (h : AH) : callC (tabF L fuel k 5) [v] h = some (.tup (flat v), h) := by
  have p := packed_run (fuel := fuel) hk hf v hv hz
  refine callV (by simp [pk_closed v hv]) p.1 ?_
  obtain ⟨ns, hn⟩ := ints_of p.2.1
  simp only [closed, hn]
  exact closeds_map D.int (fun _ => rfl) ns
theorem chained_run {k : Nat} (hk : 3 ≤ k) (hf : 302 ≤ fuel) (a : Int) (v : D) (hv : pkD v = true) (hz : szD v ≤ 300) : tabF L fuel k 18 [.int a, v] [] = some (.int (chn a v), []) := by
  obtain ⟨k, rfl⟩ : ∃ m, k = m + 1 := ⟨k - 1, by omega⟩
  have p := packed_run (fuel := fuel) (k := k) (by omega) hf v hv hz
  have cp := fun h => c_packed (fuel := fuel) (k := k) (by omega) hf v hv hz h
  obtain ⟨y, e⟩ := fold_loop (tg := .v 2) (len := (flat v).length) (b := exs (tabF L fuel k) fuel (.cons (.set 0 (.bin .mod (.bin .add (.bin .add (.bin .mul (.var 0) (.glob "BASE" g_BASE)) (.var 2)) (.int 1)) (.glob "PRIME" g_PRIME))) .nil)) (h := []) stp (fun a (y : Option D) => [some (.int a), some v, y]) (flat v) 0 a none (fun x hx a y => by
    refine ⟨[some (.int a), some v, some x], rfl, some x, ?_⟩
    rw [isI_int p.2.1 hx]
    generalize toI x = i
    simp [mul_i, mod_i, stp, toI])
  rw [tab_step (d := d_chained) rfl]
  simp [d_chained, b_chained, cp, kFor_ap, items]
  rw [e]
  simp
  rw [show (flat v).foldl stp a = chn a v from rfl]
  exact fin_0 rfl
theorem c_chained {k : Nat} (hk : 3 ≤ k) (hf : 302 ≤ fuel) (a : Int) (v : D) (hv : pkD v = true) (hz : szD v ≤ 300) (h : AH) : callC (tabF L fuel k 18) [.int a, v] h = some (.int (chn a v), h) := callV (by simp [pk_closed v hv]) (chained_run hk hf a v hv hz) rfl
/-- bodies that are packed -/
def bdOk (bs : List D) : Prop := (∀ x ∈ bs, pkD x = true ∧ szD x ≤ 300) ∧ bs.length ≤ 1000
theorem bd_closed {bs : List D} (h : bdOk bs) : closeds bs = true := closeds_all fun x hx => pk_closed x (h.1 x hx).1
theorem sum_run {k : Nat} (hk : 4 ≤ k) (hf : 302 ≤ fuel) (bs : List D) (hb : bdOk bs) : tabF L fuel k 19 [.tup bs] [] = some (.int (sumO bs), []) := by
  obtain ⟨k, rfl⟩ : ∃ m, k = m + 1 := ⟨k - 1, by omega⟩
  obtain ⟨y, e⟩ := fold_loop (tg := .v 2) (len := bs.length) (b := exs (tabF L fuel k) fuel (.cons (.set 1 (.call 18 (.cons (.var 1) (.cons (.var 2) .nil)))) .nil)) (h := []) chn (fun a (y : Option D) => [some (.tup bs), some (.int a), y]) bs 0 0 none (fun x hx a y => by
    have cc := fun h => c_chained (fuel := fuel) (k := k) (by omega) hf a x (hb.1 x hx).1 (hb.1 x hx).2 h
    exact ⟨[some (.tup bs), some (.int a), some x], rfl, some x, by simp [cc]⟩)
  rw [tab_step (d := d_sum_of) rfl]
  simp [d_sum_of, b_sum_of, kFor_ap, items]
  rw [e]
  simp
  rw [show bs.foldl chn 0 = sumO bs from rfl]
  exact fin_0 rfl
theorem c_sum {k : Nat} (hk : 4 ≤ k) (hf : 302 ≤ fuel) (bs : List D) (hb : bdOk bs) (h : AH) : callC (tabF L fuel k 19) [.tup bs] h = some (.int (sumO bs), h) := callV (by simpa [closed] using bd_closed hb) (sum_run hk hf bs hb) rfl
theorem mark_of_run {k : Nat} (hk : 5 ≤ k) (hf : 302 ≤ fuel) (bs : List D) (hb : bdOk bs) : tabF L fuel k 20 [.tup bs] [] = some (.tup [.int (bs.length : Nat), .int (sumO bs)], []) := by
  obtain ⟨k, rfl⟩ : ∃ m, k = m + 1 := ⟨k - 1, by omega⟩
  have cc := fun h => c_sum (fuel := fuel) (k := k) (by omega) hf bs hb h
  rw [tab_step (d := d_mark_of) rfl]
  simp [d_mark_of, b_mark_of, cc]
  exact fin_0 rfl
theorem c_mark_of {k : Nat} (hk : 5 ≤ k) (hf : 302 ≤ fuel) (bs : List D) (hb : bdOk bs) (h : AH) : callC (tabF L fuel k 20) [.tup bs] h = some (.tup [.int (bs.length : Nat), .int (sumO bs)], h) := callV (by simpa [closed] using bd_closed hb) (mark_of_run hk hf bs hb) rfl
theorem lchain_run {k : Nat} (hk : 3 ≤ k) (hf : 302 ≤ fuel) (bs : List D) (hb : bdOk bs) : tabF L fuel k 25 [.tup bs, .fn "packed"] [] = some (.int (sumO bs), []) := by
  obtain ⟨k, rfl⟩ : ∃ m, k = m + 1 := ⟨k - 1, by omega⟩
  obtain ⟨y, e⟩ := fold_loop (tg := .v 3) (len := bs.length) (b := exs (tabF L fuel k) fuel (.cons (.for_ (.v 4) (.seq (.callL 1 "packed" 5 (.cons (.var 3) .nil)))
 (.cons (.set 2 (.bin .mod (.blt .int (.cons (.bin .add (.bin .add (.bin .mul (.var 2) (.int 1000003)) (.var 4)) (.int 1)) .nil)) (.int 2305843009213693951)))
 .nil)) .nil)) (h := []) chn (fun a (y : Option D × Option D) => [some (.tup bs), some (.fn "packed"), some (.int a), y.1, y.2]) bs 0 0 (none, none) (fun x hx a y => by
    have p := packed_run (fuel := fuel) (k := k) (by omega) hf x (hb.1 x hx).1 (hb.1 x hx).2
    have cp := fun h => c_packed (fuel := fuel) (k := k) (by omega) hf x (hb.1 x hx).1 (hb.1 x hx).2 h
    obtain ⟨z, e⟩ := fold_loop (tg := .v 4) (len := (flat x).length) (b := exs (tabF L fuel k) fuel (.cons (.set 2 (.bin .mod (.blt .int (.cons (.bin .add (.bin .add (.bin .mul (.var 2) (.int 1000003)) (.var 4)) (.int 1)) .nil)) (.int 2305843009213693951))) .nil)) (h := []) stp (fun a (z : Option D) => [some (.tup bs), some (.fn "packed"), some (.int a), some x, z]) (flat x) 0 a y.2 (fun o ho a z => by
      refine ⟨[some (.tup bs), some (.fn "packed"), some (.int a), some x, some o], rfl, some o, ?_⟩
      rw [isI_int p.2.1 ho]
      generalize toI o = i
      simp [mul_i, mod_i, stp, toI])
    refine ⟨[some (.tup bs), some (.fn "packed"), some (.int a), some x, y.2], rfl, (some x, z), ?_⟩
    have cl : ∀ σ2 σ4 : Option D, ev (tabF L fuel k) (.callL 1 "packed" 5 (.cons (.var 3) .nil)) [some (.tup bs), some (.fn "packed"), σ2, some x, σ4] [] = some (.tup (flat x), []) := fun σ2 σ4 => by
      rw [ev_callL _ rfl]; simp [cp]
    simp [cl, kFor_ap, items]
    rw [e]
    simp
    rfl)
  rw [tab_step (d := d__law_chain) rfl]
  simp [d__law_chain, b__law_chain, kFor_ap, items]
  rw [e]
  simp
  rw [show bs.foldl chn 0 = sumO bs from rfl]
  exact fin_0 rfl
theorem c_lchain {k : Nat} (hk : 3 ≤ k) (hf : 302 ≤ fuel) (bs : List D) (hb : bdOk bs) (h : AH) : callC (tabF L fuel k 25) [.tup bs, .fn "packed"] h = some (.int (sumO bs), h) := callA (by simp [argsOk, argOk, closed, bd_closed hb]) (lchain_run hk hf bs hb) rfl
end PyD.K55

namespace PyD.K55
open PyD
variable {fuel : Nat}
/-! ### some bodies, some letters -/
def rowsD : List D := [.tup [.str "do", .int 0, .non, .tup [.int 1, .int 0]], .tup [.str "do", .int 2, .int 1, .tup []], .tup [.str "call", .int 0], .tup [.str "pass", .int 1]]
def wdsD : List D := [.str "done", .str "void"]
def Bd (v : D) : Prop := ∃ p n : Nat, p < 4 ∧ n < 5 ∧ ((∃ r ∈ rowsD, v = .tup [.str "done", .int p, .int n, r]) ∨ v = .tup [.str "void", .int p, .int n] ∨ (∃ t : Nat, t < 3 ∧ v = .tup [.str "silent", .tup [.str "pass", .int t]]) ∨ v = .tup [.str "dawn"]
  ∨ (∃ w ∈ wdsD, v = .tup [.str "change", .int p, .int n, .tup [.str "any"], w]) ∨ v = .tup [.str "back", .int p, .int n, .int 3, .str "done", .tup [.int 0, .int 1]] ∨ v = .tup [.str "back", .int p, .int n, .int 3, .str "void", .tup []])
theorem ok_words : okStr "do" = true ∧ okStr "call" = true ∧ okStr "pass" = true ∧ okStr "done" = true ∧ okStr "void" = true ∧ okStr "silent" = true ∧ okStr "dawn" = true ∧ okStr "change" = true ∧ okStr "any" = true ∧ okStr "back" = true := by decide +kernel
theorem Bd.pk {v : D} (h : Bd v) : pkD v = true := by
  obtain ⟨a1, a2, a3, a4, a5, a6, a7, a8, a9, a10⟩ := ok_words
  obtain ⟨p, n, hp, hn, h⟩ := h
  rcases h with ⟨r, hr, rfl⟩ | rfl | ⟨t, ht, rfl⟩ | rfl | ⟨w, hw, rfl⟩ | rfl | rfl
  · simp only [rowsD, List.mem_cons, List.not_mem_nil, or_false] at hr
    rcases hr with rfl | rfl | rfl | rfl <;> (simp [pkD, pkDs, a1, a2, a3, a4]; omega)
  · simp [pkD, pkDs, a5]; omega
  · simp [pkD, pkDs, a6, a3]; omega
  · simp [pkD, pkDs, a7]
  · simp only [wdsD, List.mem_cons, List.not_mem_nil, or_false] at hw
    rcases hw with rfl | rfl <;> (simp [pkD, pkDs, a8, a9, a4, a5]; omega)
  · simp [pkD, pkDs, a10, a4]; omega
  · simp [pkD, pkDs, a10, a5]; omega
theorem Bd.all {v : D} (h : Bd v) : szD v ≤ 300 ∧ smD v = true ∧ depD v ≤ 4 := by
  obtain ⟨p, n, hp, hn, h⟩ := h
  rcases h with ⟨r, hr, rfl⟩ | rfl | ⟨t, ht, rfl⟩ | rfl | ⟨w, hw, rfl⟩ | rfl | rfl
  · simp only [rowsD, List.mem_cons, List.not_mem_nil, or_false] at hr
    rcases hr with rfl | rfl | rfl | rfl <;> simp [szD, szDs, smD, smDs, depD, depDs]
  · simp [szD, szDs, smD, smDs, depD, depDs]
  · simp [szD, szDs, smD, smDs, depD, depDs]
  · simp [szD, szDs, smD, smDs, depD, depDs]
  · simp only [wdsD, List.mem_cons, List.not_mem_nil, or_false] at hw
    rcases hw with rfl | rfl <;> simp [szD, szDs, smD, smDs, depD, depDs]
  · simp [szD, szDs, smD, smDs, depD, depDs]
  · simp [szD, szDs, smD, smDs, depD, depDs]
theorem c_pickE {k : Nat} (hk : 2 ≤ k) (s : Bx) (xs : List D) (h0 : 0 < xs.length) (h1 : xs.length < 1000000) (hc : closeds xs = true) :
    ∃ (x : D) (s' : Bx), x ∈ xs ∧ closed x = true ∧ callC (tabF L fuel k 23) [.ref 0, .lst xs] [.lst s.ds] = some (x, [.lst s'.ds]) := by
  obtain ⟨x, s', hx, e⟩ := pick_ex (fuel := fuel) hk s xs h0 h1 hc
  exact ⟨x, s', hx, closeds_mem hc hx, c_bx (s := s) (s' := s') e (by simpa [closeds, closed] using hc) (closeds_mem hc hx) []⟩
theorem c_tk1 {k : Nat} (hk : 1 ≤ k) (m : Int) (hm : 0 < m) (hm2 : m < 1000000) (s : Bx) : ∃ (n : Nat) (s' : Bx), callC (tabF L fuel k 22) [.ref 0, .int m] [.lst s.ds] = some (.int (n : Nat), [.lst s'.ds]) ∧ (n : Int) < m := by
  obtain ⟨n, s', e, hn⟩ := tk_nat s m hm
  have c := c_tk (fuel := fuel) hk m hm hm2 s []
  rw [e] at c
  exact ⟨n, s', c, hn⟩
theorem somebody_run {k : Nat} (hk : 3 ≤ k) (m : Int) (hm : 2 ≤ m) (hm4 : m ≤ 4) (s : Bx) : ∃ v s', tabF L fuel k 33 [.ref 0, .int m] [.lst s.ds] = some (v, [.lst (Bx.ds s')]) ∧ Bd v := by
  obtain ⟨k, rfl⟩ : ∃ m, k = m + 1 := ⟨k - 1, by omega⟩
  obtain ⟨p, s1, c1, hp⟩ := c_tk1 (fuel := fuel) (k := k) (by omega) m (by omega) (by omega) s
  obtain ⟨n, s2, c2, hn⟩ := c_tk1 (fuel := fuel) (k := k) (by omega) 5 (by omega) (by omega) s1
  obtain ⟨r1, s3, hr1, cr1, c3⟩ := c_pickE (fuel := fuel) (k := k) (by omega) s2 rowsD (by decide) (by decide) rfl
  obtain ⟨r2, s4, hr2, cr2, c4⟩ := c_pickE (fuel := fuel) (k := k) (by omega) s3 rowsD (by decide) (by decide) rfl
  obtain ⟨t, s5, c5, ht⟩ := c_tk1 (fuel := fuel) (k := k) (by omega) 3 (by omega) (by omega) s4
  obtain ⟨w, s6, hw, cw, c6⟩ := c_pickE (fuel := fuel) (k := k) (by omega) s5 wdsD (by decide) (by decide) rfl
  obtain ⟨v, s7, hv, cv, c7⟩ := c_pickE (fuel := fuel) (k := k) (by omega) s6 [.tup [.str "done", .int (p : Nat), .int (n : Nat), r1], .tup [.str "done", .int (p : Nat), .int (n : Nat), r2], .tup [.str "void", .int (p : Nat), .int (n : Nat)], .tup [.str "silent", .tup [.str "pass", .int (t : Nat)]], .tup [.str "dawn"], .tup [.str "change", .int (p : Nat), .int (n : Nat), .tup [.str "any"], w], .tup [.str "back", .int (p : Nat), .int (n : Nat), .int 3, .str "done", .tup [.int 0, .int 1]], .tup [.str "back", .int (p : Nat), .int (n : Nat), .int 3, .str "void", .tup []]] (by simp) (by simp) (by simp [closeds, closed, cr1, cr2, cw])
  refine ⟨v, s7, ?_, ?_⟩
  · rw [tab_step (d := d__law_some_body) rfl]
    simp only [rowsD, wdsD] at c3 c4 c6
    have hcat : ∀ (a b c d e f g i : D) (H : AH), kCat2 (.lst [a, b, c, d, e]) (.lst [f, g, i], H) = some ([a, b, c, d, e, f, g, i], H) := fun a b c d e f g i H => kCat2_ap (xs := [a, b, c, d, e]) (ys := [f, g, i]) rfl rfl (by simp [lim])
    simp [d__law_some_body, b__law_some_body, c1, c2, c3, c4, c5, c6, hcat, c7]
    exact fin_o cv (by simp)
  · refine ⟨p, n, by omega, by omega, ?_⟩
    simp only [List.mem_cons, List.not_mem_nil, or_false] at hv
    rcases hv with rfl | rfl | rfl | rfl | rfl | rfl | rfl | rfl
    · exact .inl ⟨r1, hr1, rfl⟩
    · exact .inl ⟨r2, hr2, rfl⟩
    · exact .inr (.inl rfl)
    · exact .inr (.inr (.inl ⟨t, by omega, rfl⟩))
    · exact .inr (.inr (.inr (.inl rfl)))
    · exact .inr (.inr (.inr (.inr (.inl ⟨w, hw, rfl⟩))))
    · exact .inr (.inr (.inr (.inr (.inr (.inl rfl)))))
    · exact .inr (.inr (.inr (.inr (.inr (.inr rfl)))))
end PyD.K55

namespace PyD.K55
open PyD
variable {fuel : Nat}
/-! values, no part longer than b -/
mutual
def smN (b : Nat) : D → Bool
  | .tup ds => decide (ds.length ≤ b) && smNs b ds
  | .lst ds => smNs b ds
  | .rol ds => smNs b ds
  | .non => true | .bl _ => true | .int _ => true | .str _ => true | .ref _ => true | .fn _ => true
def smNs (b : Nat) : List D → Bool
  | [] => true
  | d :: ds => smN b d && smNs b ds
end
mutual
theorem smN_mono {a b : Nat} (hab : a ≤ b) : ∀ d : D, smN a d = true → smN b d = true
  | .tup ds, h => by
    simp only [smN, Bool.and_eq_true, decide_eq_true_eq] at h ⊢
    exact ⟨by omega, smNs_mono hab ds h.2⟩
  | .lst ds, h => by simp only [smN] at h ⊢; exact smNs_mono hab ds h
  | .rol ds, h => by simp only [smN] at h ⊢; exact smNs_mono hab ds h
  | .non, _ => rfl
  | .bl _, _ => rfl
  | .int _, _ => rfl
  | .str _, _ => rfl
  | .ref _, _ => rfl
  | .fn _, _ => rfl
theorem smNs_mono {a b : Nat} (hab : a ≤ b) : ∀ ds : List D, smNs a ds = true → smNs b ds = true
  | [], _ => rfl
  | d :: ds, h => by
    simp only [smNs, Bool.and_eq_true] at h ⊢
    exact ⟨smN_mono hab d h.1, smNs_mono hab ds h.2⟩
end
mutual
theorem smN_smD : ∀ d : D, smN 1000 d = true → smD d = true
  | .tup ds, h => by
    simp only [smN, Bool.and_eq_true, decide_eq_true_eq] at h
    simp only [smD, Bool.and_eq_true, decide_eq_true_eq]
    exact ⟨h.1, smNs_smDs ds h.2⟩
  | .lst ds, h => by simp only [smN] at h; simp only [smD]; exact smNs_smDs ds h
  | .rol ds, h => by simp only [smN] at h; simp only [smD]; exact smNs_smDs ds h
  | .non, _ => rfl
  | .bl _, _ => rfl
  | .int _, _ => rfl
  | .str _, _ => rfl
  | .ref _, _ => rfl
  | .fn _, _ => rfl
theorem smNs_smDs : ∀ ds : List D, smNs 1000 ds = true → smDs ds = true
  | [], _ => rfl
  | d :: ds, h => by
    simp only [smNs, Bool.and_eq_true] at h
    simp only [smDs, Bool.and_eq_true]
    exact ⟨smN_smD d h.1, smNs_smDs ds h.2⟩
end
theorem smNs_app (b : Nat) : ∀ (xs ys : List D), smNs b (xs ++ ys) = (smNs b xs && smNs b ys)
  | [], ys => rfl
  | x :: xs, ys => by simp [smNs, smNs_app b xs ys, Bool.and_assoc]
theorem smNs_mem {b : Nat} : ∀ {ds : List D} {x : D}, smNs b ds = true → x ∈ ds → smN b x = true
  | d :: ds, x, h, hm => by
    simp only [smNs, Bool.and_eq_true] at h
    rcases List.mem_cons.mp hm with rfl | hm
    · exact h.1
    · exact smNs_mem h.2 hm
theorem smNs_all {b : Nat} : ∀ {ds : List D}, (∀ x ∈ ds, smN b x = true) → smNs b ds = true
  | [], _ => rfl
  | d :: ds, h => by
    simp only [smNs, Bool.and_eq_true]
    exact ⟨h d (by simp), smNs_all fun x hx => h x (by simp [hx])⟩
theorem Bd.cl {v : D} (h : Bd v) : closed v = true := pk_closed v h.pk
theorem Bd.sn {v : D} (h : Bd v) : smN 20 v = true := by
  obtain ⟨p, n, hp, hn, h⟩ := h
  rcases h with ⟨r, hr, rfl⟩ | rfl | ⟨t, ht, rfl⟩ | rfl | ⟨w, hw, rfl⟩ | rfl | rfl
  · simp only [rowsD, List.mem_cons, List.not_mem_nil, or_false] at hr
    rcases hr with rfl | rfl | rfl | rfl <;> simp [smN, smNs]
  · simp [smN, smNs]
  · simp [smN, smNs]
  · simp [smN, smNs]
  · simp only [wdsD, List.mem_cons, List.not_mem_nil, or_false] at hw
    rcases hw with rfl | rfl <;> simp [smN, smNs]
  · simp [smN, smNs]
  · simp [smN, smNs]
theorem c_bodyE {k : Nat} (hk : 3 ≤ k) (m : Int) (hm : 2 ≤ m) (hm4 : m ≤ 4) (s : Bx) : ∃ (v : D) (s' : Bx), Bd v ∧ callC (tabF L fuel k 33) [.ref 0, .int m] [.lst s.ds] = some (v, [.lst s'.ds]) := by
  obtain ⟨v, s', e, hb⟩ := somebody_run (fuel := fuel) hk m hm hm4 s
  exact ⟨v, s', hb, c_bx (s := s) (s' := s') e rfl hb.cl []⟩
def chsD : List D := [.tup [.str "do", .int 0, .non], .tup [.str "do", .int 1, .int 2], .tup [.str "call", .int 1], .tup [.str "pass", .int 0], .tup [.str "change", .tup [], .tup []], .tup [.str "back", .int 2, .tup [.tup [.str "agree", .int 0, .tup []]]]]
structure Lt (v : D) : Prop where
  c : closed v = true
  s : smN 20 v = true
  d : depD v ≤ 10
  h : ∃ (w : String) (i : Int) (r : List D), v = .tup (.str w :: .int i :: r) ∧ r.length < 1000
theorem someletter_run {k : Nat} (hk : 4 ≤ k) (m : Int) (hm : 2 ≤ m) (hm4 : m ≤ 4) (s : Bx) : ∃ v s', tabF L fuel k 34 [.ref 0, .int m] [.lst s.ds] = some (v, [.lst (Bx.ds s')]) ∧ Lt v := by
  obtain ⟨k, rfl⟩ : ∃ m, k = m + 1 := ⟨k - 1, by omega⟩
  obtain ⟨p, s1, c1, hp⟩ := c_tk1 (fuel := fuel) (k := k) (by omega) m (by omega) (by omega) s
  obtain ⟨n, s2, c2, hn⟩ := c_tk1 (fuel := fuel) (k := k) (by omega) 5 (by omega) (by omega) s1
  obtain ⟨r1, s3, hr1, cr1, c3⟩ := c_pickE (fuel := fuel) (k := k) (by omega) s2 chsD (by decide) (by decide) rfl
  obtain ⟨r2, s4, hr2, cr2, c4⟩ := c_pickE (fuel := fuel) (k := k) (by omega) s3 chsD (by decide) (by decide) rfl
  obtain ⟨b1, s5, hb1, c5⟩ := c_bodyE (fuel := fuel) (k := k) (by omega) m hm hm4 s4
  obtain ⟨b2, s6, hb2, c6⟩ := c_bodyE (fuel := fuel) (k := k) (by omega) m hm hm4 s5
  have cb1 := hb1.cl
  have cb2 := hb2.cl
  obtain ⟨v, s7, hv, cv, c7⟩ := c_pickE (fuel := fuel) (k := k) (by omega) s6 [.tup [.str "ask", .int (p : Nat), .int (n : Nat), r1, .int 3, .tup [.int 2, .int 77]], .tup [.str "seen", .int (p : Nat), .int (n : Nat), r2], .tup [.str "heard", .int (p : Nat), .int 4, .int 100000000000000000], .tup [.str "agree", .int (p : Nat), .non], .tup [.str "row", .int (n : Nat), b1, .int 5], .tup [.str "row", .int (n : Nat), b2, .int 0], .tup [.str "took", .int (p : Nat), .int (n : Nat), .int 9]] (by simp) (by simp) (by simp [closeds, closed, cr1, cr2, cb1, cb2])
  have hq : ∀ {r : D}, r ∈ chsD → smN 20 r = true ∧ depD r ≤ 4 := fun {r} hr => by
    simp only [chsD, List.mem_cons, List.not_mem_nil, or_false] at hr
    rcases hr with rfl | rfl | rfl | rfl | rfl | rfl <;> simp [smN, smNs, depD, depDs]
  have q1 := hq hr1
  have q2 := hq hr2
  have q3 := hb1.sn
  have q4 := hb2.sn
  have q5 := hb1.all.2.2
  have q6 := hb2.all.2.2
  refine ⟨v, s7, ?_, ?_⟩
  · rw [tab_step (d := d__law_some_letter) rfl]
    simp only [chsD] at c3 c4
    have hcat : ∀ (a b c d e f g : D) (H : AH), kCat2 (.lst [a, b, c, d]) (.lst [e, f, g], H) = some ([a, b, c, d, e, f, g], H) := fun a b c d e f g H => kCat2_ap (xs := [a, b, c, d]) (ys := [e, f, g]) rfl rfl (by simp [lim])
    have hpw : binop .pow (.int 10) (.int 17) = some (.int 100000000000000000) := rfl
    simp [d__law_some_letter, b__law_some_letter, c1, c2, c3, c4, c5, c6, hcat, hpw, c7]
    exact fin_o cv (by simp)
  · simp only [List.mem_cons, List.not_mem_nil, or_false] at hv
    refine ⟨cv, ?_, ?_, ?_⟩
    · rcases hv with rfl | rfl | rfl | rfl | rfl | rfl | rfl <;> simp [smN, smNs, q1.1, q2.1, q3, q4]
    · rcases hv with rfl | rfl | rfl | rfl | rfl | rfl | rfl <;> (simp [depD, depDs]; try omega)
    · rcases hv with rfl | rfl | rfl | rfl | rfl | rfl | rfl <;> exact ⟨_, _, _, rfl, by simp⟩
end PyD.K55

namespace PyD.K55
open PyD
variable {fuel : Nat}
/-! ### turned -/
def oddsD : List D := [.non, .bl true, .int (-1), .str "x", .tup [], .str "ask", .int 99, .tup [.str "pass", .int (-1)], .lst [.int 1, .int 2], .tup [.str "do", .int 0], .tup [.str "dawn"]]
theorem odds_ok {x : D} (h : x ∈ oddsD) : closed x = true ∧ smN 2 x = true ∧ depD x ≤ 1 := by
  simp only [oddsD, List.mem_cons, List.not_mem_nil, or_false] at h
  rcases h with rfl | rfl | rfl | rfl | rfl | rfl | rfl | rfl | rfl | rfl | rfl <;> simp [closed, closeds, smN, smNs, depD, depDs]
theorem eq_nilT {ds : List D} (hc : closed (.tup ds) = true) (hd : depD (.tup ds) ≤ 60) (H : AH) : cmpop .eq (.tup ds) (.tup []) H = some ds.isEmpty := by
  have h1 : rsv (.tup ds) H = .tup ds := rfl
  have h2 : rsv (.tup []) H = .tup [] := rfl
  have h3 : closed (.tup []) = true := rfl
  have h4 : depD (.tup []) ≤ 60 := by decide
  simp only [cmpop, eqO, h1, h2, hc, h3]
  rw [if_pos (by simp [h4, hd])]
  cases ds <;> simp [eqD, eqDs]
theorem smNs_take {b : Nat} {ds : List D} (n : Nat) (h : smNs b ds = true) : smNs b (ds.take n) = true := smNs_all fun x hx => smNs_mem h (List.mem_of_mem_take hx)
theorem smNs_drop {b : Nat} {ds : List D} (n : Nat) (h : smNs b ds = true) : smNs b (ds.drop n) = true := smNs_all fun x hx => smNs_mem h (List.mem_of_mem_drop hx)
def Tn (b d : Nat) (v : D) : Prop := closed v = true ∧ smN b v = true ∧ depD v ≤ d
theorem turned_run {b : Nat} (hb : 2 ≤ b) (hb2 : b ≤ 500) : ∀ (d k : Nat) (v : D) (s : Bx), d + 3 ≤ k → d ≤ 50 → Tn b d v → ∃ v' s', tabF L fuel k 35 [.ref 0, v] [.lst s.ds] = some (v', [.lst (Bx.ds s')]) ∧ Tn (b + 1) (d + 1) v' := by
  intro d
  induction d with
  | zero =>
    intro k v s hk hd ⟨hc, hs, hv⟩
    obtain ⟨k, rfl⟩ : ∃ m, k = m + 1 := ⟨k - 1, by omega⟩
    obtain ⟨o, s1, ho, co, c1⟩ := c_pickE (fuel := fuel) (k := k) (by omega) s oddsD (by decide) (by decide) rfl
    have q := odds_ok ho
    refine ⟨o, s1, ?_, q.1, smN_mono (by omega) _ q.2.1, by omega⟩
    simp only [oddsD] at c1
    have ht := fun H => isty_t hc H
    have hT : isT v = false := by cases v <;> first | rfl | simp [depD] at hv
    rw [hT] at ht
    rw [tab_step (d := d__law_turned) rfl]
    simp [d__law_turned, b__law_turned, c1, ht]
    exact fin_o co (by simp)
  | succ d ih =>
    intro k v s hk hd ⟨hc, hs, hv⟩
    obtain ⟨k, rfl⟩ : ∃ m, k = m + 1 := ⟨k - 1, by omega⟩
    obtain ⟨o, s1, ho, co, c1⟩ := c_pickE (fuel := fuel) (k := k) (by omega) s oddsD (by decide) (by decide) rfl
    have q := odds_ok ho
    have qo : Tn (b + 1) (d + 1 + 1) o := ⟨q.1, smN_mono (by omega) _ q.2.1, by omega⟩
    simp only [oddsD] at c1
    have ht := fun H => isty_t hc H
    cases hT : isT v with
    | false =>
      refine ⟨o, s1, ?_, qo⟩
      rw [hT] at ht
      rw [tab_step (d := d__law_turned) rfl]
      simp [d__law_turned, b__law_turned, c1, ht]
      exact fin_o co (by simp)
    | true =>
      rw [hT] at ht
      obtain ⟨ds, rfl⟩ : ∃ ds, v = .tup ds := by
        cases v with
        | tup ds => exact ⟨ds, rfl⟩
        | _ => simp [isT] at hT
      have hq := fun H => eq_nilT hc (by omega) H
      cases hE : ds.isEmpty with
      | true =>
        refine ⟨o, s1, ?_, qo⟩
        rw [hE] at hq
        rw [tab_step (d := d__law_turned) rfl]
        generalize D.tup ds = V at *
        simp [d__law_turned, b__law_turned, c1, ht, hq]
        exact fin_o co (by simp)
      | false =>
        rw [hE] at hq
        have hlen : 0 < ds.length := by
          cases ds with
          | nil => simp at hE
          | cons x r => simp
        have hs' := hs
        simp only [smN, Bool.and_eq_true, decide_eq_true_eq] at hs'
        have hcd : closeds ds = true := by simpa [closed] using hc
        simp only [depD] at hv
        obtain ⟨a, s2, c2, ha⟩ := c_tk1 (fuel := fuel) (k := k) (by omega) 4 (by omega) (by omega) s1
        by_cases ha0 : a = 0
        · subst ha0
          refine ⟨o, s2, ?_, qo⟩
          rw [tab_step (d := d__law_turned) rfl]
          generalize D.tup ds = V at *
          simp [d__law_turned, b__law_turned, c1, ht, hq, c2]
          exact fin_o co (by simp)
        have ha1 : ((a : Int) == 0) = false := by rw [beq_eq_false_iff_ne]; omega
        obtain ⟨p, s3, c3, hp⟩ := c_tk1 (fuel := fuel) (k := k) (by omega) (ds.length : Nat) (by omega) (by omega) s2
        obtain ⟨y, s4, c4, hy⟩ := c_tk1 (fuel := fuel) (k := k) (by omega) 5 (by omega) (by omega) s3
        have hp' : p < ds.length := by omega
        have f1 : ∀ H, kSlc3 (.tup ds) none (some (p : Int), H) = some (.tup (ds.take p), H) := fun H => by rw [kSlc3_ap, cut_to (by omega)]
        have f2 : ∀ H, kSlc3 (.tup ds) (some ((p : Int) + 1)) (none, H) = some (.tup (ds.drop (p + 1)), H) := fun H => by
          rw [kSlc3_ap, show ((p : Int) + 1) = ((p + 1 : Nat) : Int) from by omega, cut_from (by omega)]
        have f3 : ∀ H, kSlc3 (.tup ds) (some (p : Int)) (none, H) = some (.tup (ds.drop p), H) := fun H => by rw [kSlc3_ap, cut_from (by omega)]
        have hl : ∀ H, bltf .len [.tup ds] H = some (.int (ds.length : Nat)) := fun H => rfl
        have hix : ∀ H, index (.tup ds) (.int (p : Nat)) H = some ds[p] := fun H => ixs (List.getElem?_eq_getElem hp') H
        by_cases y0 : y = 0
        · subst y0
          have g : binop .add (.tup (ds.take p)) (.tup (ds.drop (p + 1))) = some (.tup (ds.take p ++ ds.drop (p + 1))) := add_t (by simp [lim]; omega)
          have hcl : closed (.tup (ds.take p ++ ds.drop (p + 1))) = true := by simp [closed, closeds_app, closeds_takeD p hcd, closeds_dropD (p + 1) hcd]
          refine ⟨.tup (ds.take p ++ ds.drop (p + 1)), s4, ?_, hcl, ?_, ?_⟩
          · rw [tab_step (d := d__law_turned) rfl]
            generalize D.tup ds = V at *
            generalize ds.take p = T1 at *
            generalize ds.drop (p + 1) = T2 at *
            simp [d__law_turned, b__law_turned, c1, ht, hq, c2, ha1, ha0, hl, c3, c4, f1, f2, g]
            exact fin_o hcl (by simp)
          · refine smN_mono (a := b) (by omega) _ ?_
            simp only [smN, smNs_app, smNs_take p hs'.2, smNs_drop (p + 1) hs'.2, Bool.and_self, Bool.and_true, decide_eq_true_eq]
            simp; omega
          · have := depDs_take ds p
            have := depDs_drop ds (p + 1)
            simp only [depD, depDs_app]; omega
        have hy0 : ((y : Int) == 0) = false := by rw [beq_eq_false_iff_ne]; omega
        by_cases y1 : y = 1
        · subst y1
          have g : binop .add (.tup (ds.take p)) (.tup [o]) = some (.tup (ds.take p ++ [o])) := add_t (by simp [lim]; omega)
          have g2 : binop .add (.tup (ds.take p ++ [o])) (.tup (ds.drop p)) = some (.tup (ds.take p ++ [o] ++ ds.drop p)) := add_t (by simp [lim]; omega)
          have hcl : closed (.tup (ds.take p ++ [o] ++ ds.drop p)) = true := by simp [closed, closeds, closeds_app, closeds_takeD p hcd, closeds_dropD p hcd, co]
          refine ⟨.tup (ds.take p ++ [o] ++ ds.drop p), s4, ?_, hcl, ?_, ?_⟩
          · rw [tab_step (d := d__law_turned) rfl]
            generalize D.tup ds = V at *
            generalize ds.take p = T1 at *
            generalize ds.drop p = T2 at *
            generalize T1 ++ [o] = T3 at *
            generalize T3 ++ T2 = T4 at *
            simp [d__law_turned, b__law_turned, c1, ht, hq, c2, ha1, ha0, hl, c3, c4, f1, f3, g, g2]
            exact fin_o hcl (by simp)
          · have := smN_mono (show 2 ≤ b + 1 by omega) _ q.2.1
            have z := smNs_mono (show b ≤ b + 1 by omega) _ hs'.2
            simp only [smN, smNs, smNs_app, smNs_take p z, smNs_drop p z, this, Bool.and_self, Bool.and_true, decide_eq_true_eq]
            simp; omega
          · have := depDs_take ds p
            have := depDs_drop ds p
            simp only [depD, depDs, depDs_app]; omega
        have hy1 : ((y : Int) == 1) = false := by rw [beq_eq_false_iff_ne]; omega
        have hm : ds[p] ∈ ds := List.getElem_mem hp'
        have hx : Tn b d ds[p] := ⟨closeds_mem hcd hm, smNs_mem hs'.2 hm, by have := depDs_mem hm; omega⟩
        obtain ⟨x', s5, e5, t5⟩ := ih k ds[p] s4 (by omega) (by omega) hx
        have c5 := c_bx (s := s4) (s' := s5) e5 (by simp [closeds, hx.1]) t5.1 []
        generalize ds[p] = X at *
        have g : binop .add (.tup (ds.take p)) (.tup [x']) = some (.tup (ds.take p ++ [x'])) := add_t (by simp [lim]; omega)
        have g2 : binop .add (.tup (ds.take p ++ [x'])) (.tup (ds.drop (p + 1))) = some (.tup (ds.take p ++ [x'] ++ ds.drop (p + 1))) := add_t (by simp [lim]; omega)
        have hcl : closed (.tup (ds.take p ++ [x'] ++ ds.drop (p + 1))) = true := by simp [closed, closeds, closeds_app, closeds_takeD p hcd, closeds_dropD (p + 1) hcd, t5.1]
        refine ⟨.tup (ds.take p ++ [x'] ++ ds.drop (p + 1)), s5, ?_, hcl, ?_, ?_⟩
        · rw [tab_step (d := d__law_turned) rfl]
          generalize D.tup ds = V at *
          generalize ds.take p = T1 at *
          generalize ds.drop (p + 1) = T2 at *
          generalize T1 ++ [x'] = T3 at *
          generalize T3 ++ T2 = T4 at *
          simp [d__law_turned, b__law_turned, c1, ht, hq, c2, ha1, ha0, hl, c3, c4, f1, f2, hy0, y0, hy1, y1, hix, c5, g, g2]
          exact fin_o hcl (by simp)
        · have z := smNs_mono (show b ≤ b + 1 by omega) _ hs'.2
          simp only [smN, smNs, smNs_app, smNs_take p z, smNs_drop (p + 1) z, t5.2.1, Bool.and_self, Bool.and_true, decide_eq_true_eq]
          simp; omega
        · have := depDs_take ds p
          have := depDs_drop ds (p + 1)
          have := t5.2.2
          simp only [depD, depDs, depDs_app]; omega
end PyD.K55

namespace PyD.K55
open PyD
variable {fuel : Nat}
/-! ### what a body tells -/
theorem beq_flip (x w : String) : (x == w) = (w == x) := by rw [Bool.eq_iff_iff]; simp only [beq_iff_eq]; exact ⟨Eq.symm, Eq.symm⟩
theorem isin4 (w a b c d : String) (h : AH) : cmpop .isin (.str w) (.tup [.str a, .str b, .str c, .str d]) h = some (w == a || w == b || w == c || w == d) := by
  simp [cmpop, items, PyD.flat, beqD, beq_flip a, beq_flip b, beq_flip c, beq_flip d, Bool.or_assoc]
theorem kSlc3_t (xs l u h) : kSlc3 (.tup xs) l (u, h) = some (.tup (cut xs l u), h) := rfl
def qB : Ss := (.cons (.set 9 (.cmp .isin (.idx (.var 8) (.int 0)) (.tup (.cons (.str "done") (.cons (.str "void") (.cons (.str "change") (.cons (.str "back") .nil)))))))
 (.cons (.set 10 (.bop false (.cons (.call 26 (.cons (.var 8) .nil)) (.cons (.bop true (.cons (.cmp .isin (.idx (.var 8) (.int 0)) (.tup (.cons (.str "change") (.cons (.str "back") .nil)))) (.cons (.cmp .eq (.idx (.var 8) (.int 4)) (.str "done")) .nil))) .nil))))
 (.cons (.ite (.not (.call 24 (.cons (.tup (.cons (.call 10 (.cons (.var 8) .nil)) (.cons (.call 11 (.cons (.var 8) .nil)) .nil))) (.cons (.tup (.cons (.ite (.var 9) (.slc (.var 8) (.so (.int 1)) (.so (.int 3))) .non) (.cons (.var 10) .nil))) .nil))))
 (.cons (.ret (.bl false))
 .nil)
 .nil)
 .nil)))
theorem qB_ok {k : Nat} (hk : 6 ≤ k) {v : D} (hv : Bd v) (x0 x1 x2 x3 x4 x5 x6 x7 x9 x10 x11 : Option D) (h : AH) :
    ∃ y9 y10, exs (tabF L fuel k) fuel qB [x0, x1, x2, x3, x4, x5, x6, x7, some v, x9, x10, x11] h = some (.nx, [x0, x1, x2, x3, x4, x5, x6, x7, some v, y9, y10, x11], h) := by
  obtain ⟨k, rfl⟩ : ∃ m, k = m + 1 := ⟨k - 1, by omega⟩
  obtain ⟨p, n, hp, hn, hv⟩ := hv
  have same : ∀ (a : D) (c : Bool) (H : AH), closed a = true → keyOk a = true → depD a ≤ 2 → callC (tabF L fuel (k + 1) 24) [.tup [a, .bl c], .tup [a, .bl c]] H = some (.bl true, H) := fun a c H h1 h2 h3 => c_refl (by simp [closed, closeds, h1]) (by simp [keyOk, keyOks, h2]) (by simp [depD, depDs]; omega) H
  have same1 := fun (i j : Int) c H => same (.tup [.int i, .int j]) c H rfl rfl (by simp [depD, depDs])
  have same2 := fun c H => same .non c H rfl rfl (by simp [depD, depDs])
  clear same
  rcases hv with ⟨r, hr, rfl⟩ | rfl | ⟨t, ht, rfl⟩ | rfl | ⟨w, hw, rfl⟩ | rfl | rfl
  · simp only [rowsD, List.mem_cons, List.not_mem_nil, or_false] at hr
    rcases hr with rfl | rfl | rfl | rfl
    · have hcut : cut [.str "done", .int (p : Nat), .int (n : Nat), .tup [.str "do", .int 0, .non, .tup [.int 1, .int 0]]] (some 1) (some 3) = [.int (p : Nat), .int (n : Nat)] := rfl
      have c10 : ∀ H, callC (tabF L fuel (k + 1) 10) [.tup [.str "done", .int (p : Nat), .int (n : Nat), .tup [.str "do", .int 0, .non, .tup [.int 1, .int 0]]]] H = some (.tup [.int (p : Nat), .int (n : Nat)], H) := fun H => callV (by simp [closeds, closed]) (by rw [tab_step (d := d_asked_by) rfl]; simp [d_asked_by, b_asked_by, hcut, isin4, isin2, kSlc3_t]; exact fin_0 rfl) rfl
      have c11 : ∀ H, callC (tabF L fuel (k + 1) 11) [.tup [.str "done", .int (p : Nat), .int (n : Nat), .tup [.str "do", .int 0, .non, .tup [.int 1, .int 0]]]] H = some (.bl true, H) := fun H => callV (by simp [closeds, closed]) (by rw [tab_step (d := d_is_changing_body) rfl]; simp [d_is_changing_body, b_is_changing_body, hcut, isin4, isin2, kSlc3_t]; exact fin_0 rfl) rfl
      have c26 : ∀ H, callC (tabF L fuel (k + 1) 26) [.tup [.str "done", .int (p : Nat), .int (n : Nat), .tup [.str "do", .int 0, .non, .tup [.int 1, .int 0]]]] H = some (.bl true, H) := fun H => callV (by simp [closeds, closed]) (by rw [tab_step (d := d__law_is_changing) rfl]; simp [d__law_is_changing, b__law_is_changing, hcut, isin4, isin2, kSlc3_t]; exact fin_0 rfl) rfl
      refine ⟨some (.bl true), some (.bl true), ?_⟩
      simp [qB, c10, c11, c26, hcut, isin4, isin2, kSlc3_t, same1, same2]
    · have hcut : cut [.str "done", .int (p : Nat), .int (n : Nat), .tup [.str "do", .int 2, .int 1, .tup []]] (some 1) (some 3) = [.int (p : Nat), .int (n : Nat)] := rfl
      have c10 : ∀ H, callC (tabF L fuel (k + 1) 10) [.tup [.str "done", .int (p : Nat), .int (n : Nat), .tup [.str "do", .int 2, .int 1, .tup []]]] H = some (.tup [.int (p : Nat), .int (n : Nat)], H) := fun H => callV (by simp [closeds, closed]) (by rw [tab_step (d := d_asked_by) rfl]; simp [d_asked_by, b_asked_by, hcut, isin4, isin2, kSlc3_t]; exact fin_0 rfl) rfl
      have c11 : ∀ H, callC (tabF L fuel (k + 1) 11) [.tup [.str "done", .int (p : Nat), .int (n : Nat), .tup [.str "do", .int 2, .int 1, .tup []]]] H = some (.bl true, H) := fun H => callV (by simp [closeds, closed]) (by rw [tab_step (d := d_is_changing_body) rfl]; simp [d_is_changing_body, b_is_changing_body, hcut, isin4, isin2, kSlc3_t]; exact fin_0 rfl) rfl
      have c26 : ∀ H, callC (tabF L fuel (k + 1) 26) [.tup [.str "done", .int (p : Nat), .int (n : Nat), .tup [.str "do", .int 2, .int 1, .tup []]]] H = some (.bl true, H) := fun H => callV (by simp [closeds, closed]) (by rw [tab_step (d := d__law_is_changing) rfl]; simp [d__law_is_changing, b__law_is_changing, hcut, isin4, isin2, kSlc3_t]; exact fin_0 rfl) rfl
      refine ⟨some (.bl true), some (.bl true), ?_⟩
      simp [qB, c10, c11, c26, hcut, isin4, isin2, kSlc3_t, same1, same2]
    · have hcut : cut [.str "done", .int (p : Nat), .int (n : Nat), .tup [.str "call", .int 0]] (some 1) (some 3) = [.int (p : Nat), .int (n : Nat)] := rfl
      have c10 : ∀ H, callC (tabF L fuel (k + 1) 10) [.tup [.str "done", .int (p : Nat), .int (n : Nat), .tup [.str "call", .int 0]]] H = some (.tup [.int (p : Nat), .int (n : Nat)], H) := fun H => callV (by simp [closeds, closed]) (by rw [tab_step (d := d_asked_by) rfl]; simp [d_asked_by, b_asked_by, hcut, isin4, isin2, kSlc3_t]; exact fin_0 rfl) rfl
      have c11 : ∀ H, callC (tabF L fuel (k + 1) 11) [.tup [.str "done", .int (p : Nat), .int (n : Nat), .tup [.str "call", .int 0]]] H = some (.bl true, H) := fun H => callV (by simp [closeds, closed]) (by rw [tab_step (d := d_is_changing_body) rfl]; simp [d_is_changing_body, b_is_changing_body, hcut, isin4, isin2, kSlc3_t]; exact fin_0 rfl) rfl
      have c26 : ∀ H, callC (tabF L fuel (k + 1) 26) [.tup [.str "done", .int (p : Nat), .int (n : Nat), .tup [.str "call", .int 0]]] H = some (.bl true, H) := fun H => callV (by simp [closeds, closed]) (by rw [tab_step (d := d__law_is_changing) rfl]; simp [d__law_is_changing, b__law_is_changing, hcut, isin4, isin2, kSlc3_t]; exact fin_0 rfl) rfl
      refine ⟨some (.bl true), some (.bl true), ?_⟩
      simp [qB, c10, c11, c26, hcut, isin4, isin2, kSlc3_t, same1, same2]
    · have hcut : cut [.str "done", .int (p : Nat), .int (n : Nat), .tup [.str "pass", .int 1]] (some 1) (some 3) = [.int (p : Nat), .int (n : Nat)] := rfl
      have c10 : ∀ H, callC (tabF L fuel (k + 1) 10) [.tup [.str "done", .int (p : Nat), .int (n : Nat), .tup [.str "pass", .int 1]]] H = some (.tup [.int (p : Nat), .int (n : Nat)], H) := fun H => callV (by simp [closeds, closed]) (by rw [tab_step (d := d_asked_by) rfl]; simp [d_asked_by, b_asked_by, hcut, isin4, isin2, kSlc3_t]; exact fin_0 rfl) rfl
      have c11 : ∀ H, callC (tabF L fuel (k + 1) 11) [.tup [.str "done", .int (p : Nat), .int (n : Nat), .tup [.str "pass", .int 1]]] H = some (.bl false, H) := fun H => callV (by simp [closeds, closed]) (by rw [tab_step (d := d_is_changing_body) rfl]; simp [d_is_changing_body, b_is_changing_body, hcut, isin4, isin2, kSlc3_t]; exact fin_0 rfl) rfl
      have c26 : ∀ H, callC (tabF L fuel (k + 1) 26) [.tup [.str "done", .int (p : Nat), .int (n : Nat), .tup [.str "pass", .int 1]]] H = some (.bl false, H) := fun H => callV (by simp [closeds, closed]) (by rw [tab_step (d := d__law_is_changing) rfl]; simp [d__law_is_changing, b__law_is_changing, hcut, isin4, isin2, kSlc3_t]; exact fin_0 rfl) rfl
      refine ⟨some (.bl true), some (.bl false), ?_⟩
      simp [qB, c10, c11, c26, hcut, isin4, isin2, kSlc3_t, same1, same2]
  · have hcut : cut [.str "void", .int (p : Nat), .int (n : Nat)] (some 1) (some 3) = [.int (p : Nat), .int (n : Nat)] := rfl
    have c10 : ∀ H, callC (tabF L fuel (k + 1) 10) [.tup [.str "void", .int (p : Nat), .int (n : Nat)]] H = some (.tup [.int (p : Nat), .int (n : Nat)], H) := fun H => callV (by simp [closeds, closed]) (by rw [tab_step (d := d_asked_by) rfl]; simp [d_asked_by, b_asked_by, hcut, isin4, isin2, kSlc3_t]; exact fin_0 rfl) rfl
    have c11 : ∀ H, callC (tabF L fuel (k + 1) 11) [.tup [.str "void", .int (p : Nat), .int (n : Nat)]] H = some (.bl false, H) := fun H => callV (by simp [closeds, closed]) (by rw [tab_step (d := d_is_changing_body) rfl]; simp [d_is_changing_body, b_is_changing_body, hcut, isin4, isin2, kSlc3_t]; exact fin_0 rfl) rfl
    have c26 : ∀ H, callC (tabF L fuel (k + 1) 26) [.tup [.str "void", .int (p : Nat), .int (n : Nat)]] H = some (.bl false, H) := fun H => callV (by simp [closeds, closed]) (by rw [tab_step (d := d__law_is_changing) rfl]; simp [d__law_is_changing, b__law_is_changing, hcut, isin4, isin2, kSlc3_t]; exact fin_0 rfl) rfl
    refine ⟨some (.bl true), some (.bl false), ?_⟩
    simp [qB, c10, c11, c26, hcut, isin4, isin2, kSlc3_t, same1, same2]
  · have c10 : ∀ H, callC (tabF L fuel (k + 1) 10) [.tup [.str "silent", .tup [.str "pass", .int (t : Nat)]]] H = some (.non, H) := fun H => callV (by simp [closeds, closed]) (by rw [tab_step (d := d_asked_by) rfl]; simp [d_asked_by, b_asked_by, isin4, isin2, kSlc3_t]; exact fin_0 rfl) rfl
    have c11 : ∀ H, callC (tabF L fuel (k + 1) 11) [.tup [.str "silent", .tup [.str "pass", .int (t : Nat)]]] H = some (.bl false, H) := fun H => callV (by simp [closeds, closed]) (by rw [tab_step (d := d_is_changing_body) rfl]; simp [d_is_changing_body, b_is_changing_body, isin4, isin2, kSlc3_t]; exact fin_0 rfl) rfl
    have c26 : ∀ H, callC (tabF L fuel (k + 1) 26) [.tup [.str "silent", .tup [.str "pass", .int (t : Nat)]]] H = some (.bl false, H) := fun H => callV (by simp [closeds, closed]) (by rw [tab_step (d := d__law_is_changing) rfl]; simp [d__law_is_changing, b__law_is_changing, isin4, isin2, kSlc3_t]; exact fin_0 rfl) rfl
    refine ⟨some (.bl false), some (.bl false), ?_⟩
    simp [qB, c10, c11, c26, isin4, isin2, kSlc3_t, same1, same2]
  · have c10 : ∀ H, callC (tabF L fuel (k + 1) 10) [.tup [.str "dawn"]] H = some (.non, H) := fun H => callV (by simp [closeds, closed]) (by rw [tab_step (d := d_asked_by) rfl]; simp [d_asked_by, b_asked_by, isin4, isin2, kSlc3_t]; exact fin_0 rfl) rfl
    have c11 : ∀ H, callC (tabF L fuel (k + 1) 11) [.tup [.str "dawn"]] H = some (.bl true, H) := fun H => callV (by simp [closeds, closed]) (by rw [tab_step (d := d_is_changing_body) rfl]; simp [d_is_changing_body, b_is_changing_body, isin4, isin2, kSlc3_t]; exact fin_0 rfl) rfl
    have c26 : ∀ H, callC (tabF L fuel (k + 1) 26) [.tup [.str "dawn"]] H = some (.bl true, H) := fun H => callV (by simp [closeds, closed]) (by rw [tab_step (d := d__law_is_changing) rfl]; simp [d__law_is_changing, b__law_is_changing, isin4, isin2, kSlc3_t]; exact fin_0 rfl) rfl
    refine ⟨some (.bl false), some (.bl true), ?_⟩
    simp [qB, c10, c11, c26, isin4, isin2, kSlc3_t, same1, same2]
  · simp only [wdsD, List.mem_cons, List.not_mem_nil, or_false] at hw
    rcases hw with rfl | rfl
    · have hcut : cut [.str "change", .int (p : Nat), .int (n : Nat), .tup [.str "any"], .str "done"] (some 1) (some 3) = [.int (p : Nat), .int (n : Nat)] := rfl
      have c10 : ∀ H, callC (tabF L fuel (k + 1) 10) [.tup [.str "change", .int (p : Nat), .int (n : Nat), .tup [.str "any"], .str "done"]] H = some (.tup [.int (p : Nat), .int (n : Nat)], H) := fun H => callV (by simp [closeds, closed]) (by rw [tab_step (d := d_asked_by) rfl]; simp [d_asked_by, b_asked_by, hcut, isin4, isin2, kSlc3_t]; exact fin_0 rfl) rfl
      have c11 : ∀ H, callC (tabF L fuel (k + 1) 11) [.tup [.str "change", .int (p : Nat), .int (n : Nat), .tup [.str "any"], .str "done"]] H = some (.bl true, H) := fun H => callV (by simp [closeds, closed]) (by rw [tab_step (d := d_is_changing_body) rfl]; simp [d_is_changing_body, b_is_changing_body, hcut, isin4, isin2, kSlc3_t]; exact fin_0 rfl) rfl
      have c26 : ∀ H, callC (tabF L fuel (k + 1) 26) [.tup [.str "change", .int (p : Nat), .int (n : Nat), .tup [.str "any"], .str "done"]] H = some (.bl false, H) := fun H => callV (by simp [closeds, closed]) (by rw [tab_step (d := d__law_is_changing) rfl]; simp [d__law_is_changing, b__law_is_changing, hcut, isin4, isin2, kSlc3_t]; exact fin_0 rfl) rfl
      refine ⟨some (.bl true), some (.bl true), ?_⟩
      simp [qB, c10, c11, c26, hcut, isin4, isin2, kSlc3_t, same1, same2]
    · have hcut : cut [.str "change", .int (p : Nat), .int (n : Nat), .tup [.str "any"], .str "void"] (some 1) (some 3) = [.int (p : Nat), .int (n : Nat)] := rfl
      have c10 : ∀ H, callC (tabF L fuel (k + 1) 10) [.tup [.str "change", .int (p : Nat), .int (n : Nat), .tup [.str "any"], .str "void"]] H = some (.tup [.int (p : Nat), .int (n : Nat)], H) := fun H => callV (by simp [closeds, closed]) (by rw [tab_step (d := d_asked_by) rfl]; simp [d_asked_by, b_asked_by, hcut, isin4, isin2, kSlc3_t]; exact fin_0 rfl) rfl
      have c11 : ∀ H, callC (tabF L fuel (k + 1) 11) [.tup [.str "change", .int (p : Nat), .int (n : Nat), .tup [.str "any"], .str "void"]] H = some (.bl false, H) := fun H => callV (by simp [closeds, closed]) (by rw [tab_step (d := d_is_changing_body) rfl]; simp [d_is_changing_body, b_is_changing_body, hcut, isin4, isin2, kSlc3_t]; exact fin_0 rfl) rfl
      have c26 : ∀ H, callC (tabF L fuel (k + 1) 26) [.tup [.str "change", .int (p : Nat), .int (n : Nat), .tup [.str "any"], .str "void"]] H = some (.bl false, H) := fun H => callV (by simp [closeds, closed]) (by rw [tab_step (d := d__law_is_changing) rfl]; simp [d__law_is_changing, b__law_is_changing, hcut, isin4, isin2, kSlc3_t]; exact fin_0 rfl) rfl
      refine ⟨some (.bl true), some (.bl false), ?_⟩
      simp [qB, c10, c11, c26, hcut, isin4, isin2, kSlc3_t, same1, same2]
  · have hcut : cut [.str "back", .int (p : Nat), .int (n : Nat), .int 3, .str "done", .tup [.int 0, .int 1]] (some 1) (some 3) = [.int (p : Nat), .int (n : Nat)] := rfl
    have c10 : ∀ H, callC (tabF L fuel (k + 1) 10) [.tup [.str "back", .int (p : Nat), .int (n : Nat), .int 3, .str "done", .tup [.int 0, .int 1]]] H = some (.tup [.int (p : Nat), .int (n : Nat)], H) := fun H => callV (by simp [closeds, closed]) (by rw [tab_step (d := d_asked_by) rfl]; simp [d_asked_by, b_asked_by, hcut, isin4, isin2, kSlc3_t]; exact fin_0 rfl) rfl
    have c11 : ∀ H, callC (tabF L fuel (k + 1) 11) [.tup [.str "back", .int (p : Nat), .int (n : Nat), .int 3, .str "done", .tup [.int 0, .int 1]]] H = some (.bl true, H) := fun H => callV (by simp [closeds, closed]) (by rw [tab_step (d := d_is_changing_body) rfl]; simp [d_is_changing_body, b_is_changing_body, hcut, isin4, isin2, kSlc3_t]; exact fin_0 rfl) rfl
    have c26 : ∀ H, callC (tabF L fuel (k + 1) 26) [.tup [.str "back", .int (p : Nat), .int (n : Nat), .int 3, .str "done", .tup [.int 0, .int 1]]] H = some (.bl false, H) := fun H => callV (by simp [closeds, closed]) (by rw [tab_step (d := d__law_is_changing) rfl]; simp [d__law_is_changing, b__law_is_changing, hcut, isin4, isin2, kSlc3_t]; exact fin_0 rfl) rfl
    refine ⟨some (.bl true), some (.bl true), ?_⟩
    simp [qB, c10, c11, c26, hcut, isin4, isin2, kSlc3_t, same1, same2]
  · have hcut : cut [.str "back", .int (p : Nat), .int (n : Nat), .int 3, .str "void", .tup []] (some 1) (some 3) = [.int (p : Nat), .int (n : Nat)] := rfl
    have c10 : ∀ H, callC (tabF L fuel (k + 1) 10) [.tup [.str "back", .int (p : Nat), .int (n : Nat), .int 3, .str "void", .tup []]] H = some (.tup [.int (p : Nat), .int (n : Nat)], H) := fun H => callV (by simp [closeds, closed]) (by rw [tab_step (d := d_asked_by) rfl]; simp [d_asked_by, b_asked_by, hcut, isin4, isin2, kSlc3_t]; exact fin_0 rfl) rfl
    have c11 : ∀ H, callC (tabF L fuel (k + 1) 11) [.tup [.str "back", .int (p : Nat), .int (n : Nat), .int 3, .str "void", .tup []]] H = some (.bl false, H) := fun H => callV (by simp [closeds, closed]) (by rw [tab_step (d := d_is_changing_body) rfl]; simp [d_is_changing_body, b_is_changing_body, hcut, isin4, isin2, kSlc3_t]; exact fin_0 rfl) rfl
    have c26 : ∀ H, callC (tabF L fuel (k + 1) 26) [.tup [.str "back", .int (p : Nat), .int (n : Nat), .int 3, .str "void", .tup []]] H = some (.bl false, H) := fun H => callV (by simp [closeds, closed]) (by rw [tab_step (d := d__law_is_changing) rfl]; simp [d__law_is_changing, b__law_is_changing, hcut, isin4, isin2, kSlc3_t]; exact fin_0 rfl) rfl
    refine ⟨some (.bl true), some (.bl false), ?_⟩
    simp [qB, c10, c11, c26, hcut, isin4, isin2, kSlc3_t, same1, same2]
end PyD.K55

namespace PyD.K55
open PyD
variable {fuel : Nat}
/-! ### the law -/
theorem depDs_lim {ds : List D} {m : Nat} (h : ∀ x ∈ ds, depD x ≤ m) : depDs ds ≤ m := by
  induction ds with
  | nil => simp [depDs]
  | cons a l ih =>
    have h1 := h a (by simp)
    have h2 := ih fun x hx => h x (by simp [hx])
    simp only [depDs]; omega
def vB : Ss := (.cons (.ite (.not (.call 24 (.cons (.callK 15 (.cons (.var 3) .nil) (.cons (.var 6) .nil)) (.cons (.call 32 (.cons (.var 3) (.cons (.var 6) .nil))) .nil))))
 (.cons (.ret (.bl false))
 .nil)
 .nil)
 .nil)
def vF : S := (.for_ (.v 6) (.seq (.fv (.disp (.cons (.var 5) (.cons (.call 35 (.cons (.var 2) (.cons (.var 5) .nil))) (.cons (.call 35 (.cons (.var 2) (.cons (.var 5) .nil))) (.cons (.fv (.ofSeq (.var 5))) .nil)))))))
 vB)
def wI : S := (.ite (.not (.call 24 (.cons (.call 16 (.cons (.var 5) .nil)) (.cons (.ite (.cmp .isin (.idx (.var 5) (.int 0)) (.tup (.cons (.str "row") (.cons (.str "took") .nil)))) (.bin .sub (.int 0) (.int 1)) (.idx (.var 5) (.int 1))) .nil))))
 (.cons (.ret (.bl false))
 .nil)
 .nil)
def tB : Ss := (.cons (.set 5 (.call 34 (.cons (.var 2) (.cons (.var 3) .nil)))) (.cons vF (.cons wI .nil)))
theorem vB_ok {k : Nat} (hk : 8 ≤ k) (m : Int) {v : D} (hc : closed v = true) (hs : smD v = true) (hd : depD v ≤ 50) (x0 x1 x2 x4 x5 x7 x8 x9 x10 x11 : Option D) (h : AH) :
    exs (tabF L fuel k) fuel vB [x0, x1, x2, some (.int m), x4, x5, some v, x7, x8, x9, x10, x11] h = some (.nx, [x0, x1, x2, some (.int m), x4, x5, some v, x7, x8, x9, x10, x11], h) := by
  have c15 := fun h => c_letter (fuel := fuel) (k := k) (by omega) m v hc hs hd h
  have c32 := fun h => l_letter (fuel := fuel) (k := k) (by omega) m v hc hs hd h
  have c24 := fun h => c_refl (fuel := fuel) (k := k) (d := .bl (letB m v)) rfl rfl (by simp [depD]; omega) h
  generalize letB m v = B at *
  simp [vB, c15, c32, c24]
theorem wI_ok {k : Nat} (hk : 8 ≤ k) {v : D} (hv : Lt v) (x0 x1 x2 x3 x4 x6 x7 x8 x9 x10 x11 : Option D) (h : AH) :
    ex (tabF L fuel k) fuel wI [x0, x1, x2, x3, x4, some v, x6, x7, x8, x9, x10, x11] h = some (.nx, [x0, x1, x2, x3, x4, some v, x6, x7, x8, x9, x10, x11], h) := by
  obtain ⟨k, rfl⟩ : ∃ m, k = m + 1 := ⟨k - 1, by omega⟩
  obtain ⟨w, i, r, e, _⟩ := hv.h
  have i0 : ∀ H, index v (.int 0) H = some (.str w) := fun H => by rw [e]; exact ixs (n := 0) rfl H
  have i1 : ∀ H, index v (.int 1) H = some (.int i) := fun H => by rw [e]; exact ixs (n := 1) rfl H
  have hin := fun H => isin2 w "row" "took" H
  have c24 := fun (j : Int) h => c_refl (fuel := fuel) (k := k + 1) (d := .int j) rfl rfl (by simp [depD]) h
  cases hB : (w == "row" || w == "took") with
  | true =>
    rw [hB] at hin
    have c16 : ∀ H, callC (tabF L fuel (k + 1) 16) [v] H = some (.int (-1), H) := fun H => callV (by simp [closeds, hv.c]) (by rw [tab_step (d := d_whose_letter) rfl]; simp [d_whose_letter, b_whose_letter, i0, i1, hin]; exact fin_0 rfl) rfl
    simp [wI, c16, i0, i1, hin, c24]
  | false =>
    rw [hB] at hin
    have c16 : ∀ H, callC (tabF L fuel (k + 1) 16) [v] H = some (.int i, H) := fun H => callV (by simp [closeds, hv.c]) (by rw [tab_step (d := d_whose_letter) rfl]; simp [d_whose_letter, b_whose_letter, i0, i1, hin]; exact fin_0 rfl) rfl
    simp [wI, c16, i0, i1, hin, c24]
theorem tn_ok {b d : Nat} {v : D} (hb : b ≤ 1000) (hd : d ≤ 50) (h : Tn b d v) : closed v = true ∧ smD v = true ∧ depD v ≤ 50 := ⟨h.1, smN_smD v (smN_mono hb v h.2.1), Nat.le_trans h.2.2 hd⟩
theorem lst_ok {ds : List D} (h : closed (.tup ds) = true ∧ smD (.tup ds) = true ∧ depD (.tup ds) ≤ 50) : closed (.lst ds) = true ∧ smD (.lst ds) = true ∧ depD (.lst ds) ≤ 50 := by
  refine ⟨by simpa only [closed] using h.1, ?_, by simpa only [depD] using h.2.2⟩
  have z := h.2.1
  simp only [smD, Bool.and_eq_true] at z ⊢
  exact z.2
theorem vals_ok {v t1 t2 : D} {ds : List D} (hv : Lt v) (q1 : Tn 21 11 t1) (q2 : Tn 21 11 t2) (e : v = .tup ds) : ∀ x ∈ [v, t1, t2, .lst ds], closed x = true ∧ smD x = true ∧ depD x ≤ 50 := by
  intro x hx
  have h0 := tn_ok (b := 20) (d := 10) (by decide) (by decide) (v := v) ⟨hv.c, hv.s, hv.d⟩
  simp only [List.mem_cons, List.not_mem_nil, or_false] at hx
  rcases hx with rfl | rfl | rfl | rfl
  · exact h0
  · exact tn_ok (by decide) (by decide) q1
  · exact tn_ok (by decide) (by decide) q2
  · rw [e] at h0
    exact lst_ok h0
theorem vF_ok {k : Nat} (hk : 14 ≤ k) (m : Int) {v : D} (hv : Lt v) (s : Bx) (x0 x1 x4 x6 x7 x8 x9 x10 x11 : Option D) (h : AH) :
    ∃ y6 s', ex (tabF L fuel k) fuel vF [x0, x1, some (.ref h.length), some (.int m), x4, some v, x6, x7, x8, x9, x10, x11] (h ++ [.lst s.ds]) = some (.nx, [x0, x1, some (.ref h.length), some (.int m), x4, some v, y6, x7, x8, x9, x10, x11], h ++ [.lst (Bx.ds s')]) := by
  have tv : Tn 20 10 v := ⟨hv.c, hv.s, hv.d⟩
  obtain ⟨t1, s1, e1, q1⟩ := turned_run (fuel := fuel) (b := 20) (by omega) (by omega) 10 k v s (by omega) (by omega) tv
  obtain ⟨t2, s2, e2, q2⟩ := turned_run (fuel := fuel) (b := 20) (by omega) (by omega) 10 k v s1 (by omega) (by omega) tv
  have c1 := c_bxE e1 (by simp [closeds, hv.c]) q1.1 h
  have c2 := c_bxE e2 (by simp [closeds, hv.c]) q2.1 h
  obtain ⟨w, i, r, e, hr⟩ := hv.h
  have hit : ∀ H, items v H = some (.str w :: .int i :: r) := fun H => by rw [e]; rfl
  have g := vals_ok hv q1 q2 e
  obtain ⟨f, σ', h', hw, rfl, rfl, y6, rfl⟩ := for_all (tg := .v 6) (len := 4) (b := exs (tabF L fuel k) fuel vB) [v, t1, t2, .lst (.str w :: .int i :: r)]
    (fun σ h' => h' = h ++ [.lst s2.ds] ∧ ∃ y6, σ = [x0, x1, some (.ref h.length), some (.int m), x4, some v, y6, x7, x8, x9, x10, x11])
    (fun f σ h' => f = .nx ∧ h' = h ++ [.lst s2.ds] ∧ ∃ y6, σ = [x0, x1, some (.ref h.length), some (.int m), x4, some v, y6, x7, x8, x9, x10, x11])
    (fun σ h' z => ⟨rfl, z⟩)
    (by
      rintro x hx σ h' ⟨rfl, y6, rfl⟩
      have q := g x hx
      have ee := vB_ok (fuel := fuel) (k := k) (by omega) m q.1 q.2.1 q.2.2 x0 x1 (some (.ref h.length)) x4 (some v) x7 x8 x9 x10 x11 (h ++ [.lst s2.ds])
      exact ⟨[x0, x1, some (.ref h.length), some (.int m), x4, some v, some x, x7, x8, x9, x10, x11], rfl, .nx, _, _, ee, rfl, _, rfl⟩)
    [x0, x1, some (.ref h.length), some (.int m), x4, some v, x6, x7, x8, x9, x10, x11] (h ++ [.lst s2.ds]) ⟨rfl, _, rfl⟩
  refine ⟨y6, s2, ?_⟩
  rw [← hw]
  simp [vF, c1, c2, kFor_ap, hit]
theorem tB_ok {k : Nat} (hk : 14 ≤ k) (m : Int) (hm : 2 ≤ m) (hm4 : m ≤ 4) (s : Bx) (x0 x1 x4 x5 x6 x7 x8 x9 x10 x11 : Option D) (h : AH) :
    ∃ y5 y6 s', exs (tabF L fuel k) fuel tB [x0, x1, some (.ref h.length), some (.int m), x4, x5, x6, x7, x8, x9, x10, x11] (h ++ [.lst s.ds]) = some (.nx, [x0, x1, some (.ref h.length), some (.int m), x4, y5, y6, x7, x8, x9, x10, x11], h ++ [.lst (Bx.ds s')]) := by
  obtain ⟨v, s1, e1, hv⟩ := someletter_run (fuel := fuel) (k := k) (by omega) m hm hm4 s
  have c1 := c_bxE e1 rfl hv.c h
  obtain ⟨y6, s2, e2⟩ := vF_ok (fuel := fuel) hk m hv s1 x0 x1 x4 x6 x7 x8 x9 x10 x11 h
  refine ⟨some v, y6, s2, ?_⟩
  rw [tB, exs_sets (d := v) (h' := h ++ [.lst s1.ds]) (by simp [c1])]
  simp only [List.set_cons_succ, List.set_cons_zero]
  rw [exs_go e2]
  exact exs_one (wI_ok (fuel := fuel) (by omega) hv x0 x1 (some (.ref h.length)) (some (.int m)) x4 y6 x7 x8 x9 x10 x11 _)
end PyD.K55

namespace PyD.K55
open PyD
variable {fuel : Nat}
def tF : S := .for_ (.v 4) (.rng1 (.int 10)) tB
def bE : Ex := .comp (.call 33 (.cons (.var 2) (.cons (.var 3) .nil))) (.v 4) (.rng1 (.call 22 (.cons (.var 2) (.cons (.int 8) .nil)))) .no [4]
def qF : S := .for_ (.v 8) (.seq (.var 7)) qB
def e1S : S := (.ite (.not (.call 24 (.cons (.tup (.cons (.call 19 (.cons (.var 7) .nil)) (.cons (.call 20 (.cons (.var 7) .nil)) .nil))) (.cons (.tup (.cons (.var 11) (.cons (.tup (.cons (.blt .len (.cons (.var 7) .nil)) (.cons (.var 11) .nil))) .nil))) .nil))))
 (.cons (.ret (.bl false))
 .nil)
 .nil)
def e2S : S := (.ite (.bop true (.cons (.cmp .ne (.var 7) (.tup .nil)) (.cons (.not (.call 24 (.cons (.call 18 (.cons (.call 25 (.cons (.slc (.var 7) .no (.so (.bin .sub (.blt .len (.cons (.var 7) .nil)) (.int 1)))) (.cons (.glob "packed" (.fn "packed")) .nil))) (.cons (.idx (.var 7) (.bin .sub (.blt .len (.cons (.var 7) .nil)) (.int 1))) .nil))) (.cons (.var 11) .nil)))) .nil)))
 (.cons (.ret (.bl false))
 .nil)
 .nil)
def wB : Ss := (.cons (.set 2 (.call 21 (.cons (.var 0) (.cons (.var 1) .nil))))
 (.cons (.set 3 (.bin .add (.int 2) (.call 22 (.cons (.var 2) (.cons (.int 3) .nil)))))
 (.cons tF
 (.cons (.set 7 (.blt .tuple (.cons bE .nil)))
 (.cons qF
 (.cons (.set 11 (.call 25 (.cons (.var 7) (.cons (.glob "packed" (.fn "packed")) .nil))))
 (.cons e1S (.cons e2S .nil))))))))
def rE : Ex := (.call 24 (.cons (.tup (.cons (.call 18 (.cons (.int 0) (.cons .non .nil))) (.cons (.call 17 (.cons (.tup (.cons (.str "do") (.cons (.int 1) (.cons (.int 2) .nil)))) .nil)) (.cons (.call 17 (.cons (.tup (.cons (.str "pass") (.cons (.int 0) .nil))) .nil)) .nil)))) (.cons (.tup (.cons (.int 1) (.cons (.tup (.cons (.str "do") (.cons (.int 1) (.cons .non .nil)))) (.cons (.tup (.cons (.str "pass") (.cons (.int 0) .nil))) .nil)))) .nil)))
theorem b_law_eq : b_law = (.cons (.for_ (.v 1) (.rng1 (.blt .max (.cons (.int 3) (.cons (.blt .min (.cons (.blt .len (.cons (.var 0) .nil)) (.cons (.int 6) .nil))) .nil)))) wB) (.cons (.ret rE) .nil)) := rfl
theorem tF_ok {k : Nat} (hk : 14 ≤ k) (m : Int) (hm : 2 ≤ m) (hm4 : m ≤ 4) (s : Bx) (x0 x1 x4 x5 x6 x7 x8 x9 x10 x11 : Option D) (h : AH) :
    ∃ y4 y5 y6 s', ex (tabF L fuel k) fuel tF [x0, x1, some (.ref h.length), some (.int m), x4, x5, x6, x7, x8, x9, x10, x11] (h ++ [.lst s.ds]) = some (.nx, [x0, x1, some (.ref h.length), some (.int m), y4, y5, y6, x7, x8, x9, x10, x11], h ++ [.lst (Bx.ds s')]) := by
  obtain ⟨f, σ', h', hw, rfl, y4, y5, y6, s', rfl, rfl⟩ := for_all (tg := .v 4) (len := 10) (b := exs (tabF L fuel k) fuel tB) ((List.range 10).map fun i => D.int (i : Nat))
    (fun σ h' => ∃ y4 y5 y6 s', σ = [x0, x1, some (.ref h.length), some (.int m), y4, y5, y6, x7, x8, x9, x10, x11] ∧ h' = h ++ [.lst (Bx.ds s')])
    (fun f σ h' => f = .nx ∧ ∃ y4 y5 y6 s', σ = [x0, x1, some (.ref h.length), some (.int m), y4, y5, y6, x7, x8, x9, x10, x11] ∧ h' = h ++ [.lst (Bx.ds s')])
    (fun σ h' z => ⟨rfl, z⟩)
    (by
      rintro x hx σ h' ⟨y4, y5, y6, s', rfl, rfl⟩
      obtain ⟨z5, z6, s2, e⟩ := tB_ok (fuel := fuel) hk m hm hm4 s' x0 x1 (some x) y5 y6 x7 x8 x9 x10 x11 h
      exact ⟨[x0, x1, some (.ref h.length), some (.int m), some x, y5, y6, x7, x8, x9, x10, x11], rfl, .nx, _, _, e, _, _, _, _, rfl, rfl⟩)
    [x0, x1, some (.ref h.length), some (.int m), x4, x5, x6, x7, x8, x9, x10, x11] (h ++ [.lst s.ds]) ⟨_, _, _, _, rfl, rfl⟩
  refine ⟨y4, y5, y6, s', ?_⟩
  have hr : rng 0 10 = some ((List.range 10).map fun i => .int (i : Nat)) := rng_n (n := 10) (by omega)
  generalize hL : (List.range 10).map (fun i => D.int (i : Nat)) = LL at *
  have hl : LL.length = 10 := by rw [← hL]; simp
  rw [← hw]
  simp [tF, hr, kFor_ap, hl]
theorem bE_ok {k : Nat} (hk : 5 ≤ k) (m : Int) (hm : 2 ≤ m) (hm4 : m ≤ 4) (s : Bx) (x0 x1 x4 x5 x6 x7 x8 x9 x10 x11 : Option D) (h : AH) :
    ∃ (bs : List D) (s' : Bx), ev (tabF L fuel k) (.blt .tuple (.cons bE .nil)) [x0, x1, some (.ref h.length), some (.int m), x4, x5, x6, x7, x8, x9, x10, x11] (h ++ [.lst s.ds]) = some (.tup bs, h ++ [.lst s'.ds]) ∧ (∀ x ∈ bs, Bd x) ∧ bs.length ≤ 8 := by
  obtain ⟨n, s1, e1, hn⟩ := tk_nat s 8 (by omega)
  have c1 := c_tkE (fuel := fuel) (k := k) (by omega) 8 (by omega) (by omega) s h
  rw [e1] at c1
  have c1 : callC (tabF L fuel k 22) [.ref h.length, .int 8] (h ++ [.lst s.ds]) = some (.int (n : Nat), h ++ [.lst s1.ds]) := c1
  have hr : rng 0 (n : Nat) = some ((List.range n).map fun i => .int (i : Nat)) := rng_n (by omega)
  obtain ⟨bs, h', e2, ⟨s2, rfl⟩, hl, hb⟩ := compL_ok (σ := [x0, x1, some (.ref h.length), some (.int m), none, x5, x6, x7, x8, x9, x10, x11]) (tg := .v 4) (len := n) (c := tstO (tabF L fuel k) .no) (e := ev (tabF L fuel k) (.call 33 (.cons (.var 2) (.cons (.var 3) .nil)))) (fun h' => ∃ s' : Bx, h' = h ++ [.lst s'.ds]) Bd ((List.range n).map fun i => D.int (i : Nat)) 0 (h ++ [.lst s1.ds]) (by
    rintro x hx h' ⟨s', rfl⟩
    obtain ⟨v, s2, e, hv⟩ := somebody_run (fuel := fuel) (k := k) (by omega) m hm hm4 s'
    have c := c_bxE e rfl hv.cl h
    exact ⟨[x0, x1, some (.ref h.length), some (.int m), some x, x5, x6, x7, x8, x9, x10, x11], rfl, rfl, v, h ++ [.lst s2.ds], by simp [c], ⟨s2, rfl⟩, hv⟩) ⟨s1, rfl⟩
  refine ⟨bs, s2, ?_, hb, by rw [hl]; simp; omega⟩
  have hlim : ((List.range n).map fun i => D.int (i : Nat)).length ≤ lim := by simp [lim]; omega
  have hl2 : ((List.range n).map fun i => D.int (i : Nat)).length = n := by simp
  have hw : wipe [x0, x1, some (.ref h.length), some (.int m), x4, x5, x6, x7, x8, x9, x10, x11] [4] = [x0, x1, some (.ref h.length), some (.int m), none, x5, x6, x7, x8, x9, x10, x11] := rfl
  generalize hL : (List.range n).map (fun i => D.int (i : Nat)) = LL at *
  have ht : ∀ H, bltf .tuple [.lst bs] H = some (.tup bs) := fun H => rfl
  simp [bE, c1, hr, kComp_ap _ _ _ _ _ _ _ _ _ hlim, hl2, hw]
  rw [e2]
  simp [ht]
theorem bd_of {bs : List D} (h : ∀ x ∈ bs, Bd x) (hl : bs.length ≤ 8) : bdOk bs := ⟨fun x hx => ⟨(h x hx).pk, (h x hx).all.1⟩, by omega⟩
theorem qF_ok {k : Nat} (hk : 6 ≤ k) {bs : List D} (hb : ∀ x ∈ bs, Bd x) (x0 x1 x2 x3 x4 x5 x6 x8 x9 x10 x11 : Option D) (h : AH) :
    ∃ y8 y9 y10, ex (tabF L fuel k) fuel qF [x0, x1, x2, x3, x4, x5, x6, some (.tup bs), x8, x9, x10, x11] h = some (.nx, [x0, x1, x2, x3, x4, x5, x6, some (.tup bs), y8, y9, y10, x11], h) := by
  obtain ⟨f, σ', h', hw, rfl, rfl, y8, y9, y10, rfl⟩ := for_all (tg := .v 8) (len := bs.length) (b := exs (tabF L fuel k) fuel qB) bs
    (fun σ h' => h' = h ∧ ∃ y8 y9 y10, σ = [x0, x1, x2, x3, x4, x5, x6, some (.tup bs), y8, y9, y10, x11])
    (fun f σ h' => f = .nx ∧ h' = h ∧ ∃ y8 y9 y10, σ = [x0, x1, x2, x3, x4, x5, x6, some (.tup bs), y8, y9, y10, x11])
    (fun σ h' z => ⟨rfl, z⟩)
    (by
      rintro x hx σ h' ⟨rfl, y8, y9, y10, rfl⟩
      obtain ⟨z9, z10, e⟩ := qB_ok (fuel := fuel) hk (hb x hx) x0 x1 x2 x3 x4 x5 x6 (some (.tup bs)) y9 y10 x11 h'
      exact ⟨[x0, x1, x2, x3, x4, x5, x6, some (.tup bs), some x, y9, y10, x11], rfl, .nx, _, _, e, rfl, _, _, _, rfl⟩)
    [x0, x1, x2, x3, x4, x5, x6, some (.tup bs), x8, x9, x10, x11] h ⟨rfl, _, _, _, rfl⟩
  refine ⟨y8, y9, y10, ?_⟩
  have hit : ∀ H, items (.tup bs) H = some bs := fun H => rfl
  have hrf : rfOf (.tup bs) = none := rfl
  rw [← hw]
  generalize D.tup bs = V at *
  simp [qF, kFor_ap, hit, hrf]
theorem e1_ok {k : Nat} (hk : 8 ≤ k) (hf : 302 ≤ fuel) {bs : List D} (hb : bdOk bs) (x0 x1 x2 x3 x4 x5 x6 x8 x9 x10 : Option D) (h : AH) :
    ex (tabF L fuel k) fuel e1S [x0, x1, x2, x3, x4, x5, x6, some (.tup bs), x8, x9, x10, some (.int (sumO bs))] h = some (.nx, [x0, x1, x2, x3, x4, x5, x6, some (.tup bs), x8, x9, x10, some (.int (sumO bs))], h) := by
  have c19 := fun h => c_sum (fuel := fuel) (k := k) (by omega) hf bs hb h
  have c20 := fun h => c_mark_of (fuel := fuel) (k := k) (by omega) hf bs hb h
  have c24 := fun (i j l : Int) h => c_refl (fuel := fuel) (k := k) (d := .tup [.int i, .tup [.int j, .int l]]) rfl rfl (by simp [depD, depDs]; omega) h
  have hl : ∀ H, bltf .len [.tup bs] H = some (.int (bs.length : Nat)) := fun H => rfl
  generalize D.tup bs = V at *
  generalize sumO bs = S at *
  simp [e1S, c19, c20, c24, hl]
theorem ne_nilT {ds : List D} (hc : closed (.tup ds) = true) (hd : depD (.tup ds) ≤ 60) (H : AH) : cmpop .ne (.tup ds) (.tup []) H = some (!ds.isEmpty) := by
  have := eq_nilT hc hd H
  simp only [cmpop] at this ⊢
  rw [this]; rfl
theorem e2_ok {k : Nat} (hk : 8 ≤ k) (hf : 302 ≤ fuel) {bs : List D} (hb : ∀ x ∈ bs, Bd x) (hl8 : bs.length ≤ 8) (x0 x1 x2 x3 x4 x5 x6 x8 x9 x10 : Option D) (h : AH) :
    ex (tabF L fuel k) fuel e2S [x0, x1, x2, x3, x4, x5, x6, some (.tup bs), x8, x9, x10, some (.int (sumO bs))] h = some (.nx, [x0, x1, x2, x3, x4, x5, x6, some (.tup bs), x8, x9, x10, some (.int (sumO bs))], h) := by
  have hcl : closed (.tup bs) = true := bd_closed (bd_of hb hl8)
  have hdp : depD (.tup bs) ≤ 60 := by
    have := depDs_lim (ds := bs) (m := 4) fun x hx => (hb x hx).all.2.2
    simp only [depD]; omega
  have hne := fun H => ne_nilT hcl hdp H
  rcases List.eq_nil_or_concat bs with rfl | ⟨init, x, rfl⟩
  · simp only [List.isEmpty_nil, Bool.not_true] at hne
    generalize sumO [] = S at *
    simp [e2S, hne]
  · simp only [List.concat_eq_append] at *
    have hE : (init ++ [x]).isEmpty = false := by cases init <;> rfl
    rw [hE] at hne
    have hx := hb x (by simp)
    have hi : ∀ y ∈ init, Bd y := fun y hy => hb y (by simp [hy])
    have c25 := fun h => c_lchain (fuel := fuel) (k := k) (by omega) hf init (bd_of hi (by simp at hl8; omega)) h
    have c18 := fun h => c_chained (fuel := fuel) (k := k) (by omega) hf (sumO init) x hx.pk hx.all.1 h
    have hsum : sumO (init ++ [x]) = chn (sumO init) x := by simp [sumO, List.foldl_append]
    have hl : ∀ H, bltf .len [.tup (init ++ [x])] H = some (.int ((init.length : Nat) + 1 : Int)) := fun H => by rw [len_tup]; simp
    have hcut : ∀ H, kSlc3 (.tup (init ++ [x])) none (some ((init.length : Nat) + 1 - 1 : Int), H) = some (.tup init, H) := fun H => by
      rw [kSlc3_ap, show ((init.length : Nat) + 1 - 1 : Int) = ((init.length : Nat) : Int) from by omega, cut_to (by simp)]
      simp
    have hcut2 : ∀ H, kSlc3 (.tup (init ++ [x])) none (some ((init.length : Nat) : Int), H) = some (.tup init, H) := fun H => by
      rw [kSlc3_ap, cut_to (by simp)]
      simp
    have hix : ∀ H, index (.tup (init ++ [x])) (.int (init.length : Nat)) H = some x := fun H => ixs (by simp) H
    have hix2 : ∀ H, index (.tup (init ++ [x])) (.int ((init.length : Nat) + 1 - 1 : Int)) H = some x := fun H => by
      rw [show ((init.length : Nat) + 1 - 1 : Int) = ((init.length : Nat) : Int) from by omega]; exact hix H
    have c24 := fun (i : Int) h => c_refl (fuel := fuel) (k := k) (d := .int i) rfl rfl (by simp [depD]; omega) h
    rw [hsum]
    generalize chn (sumO init) x = S at *
    generalize sumO init = S0 at *
    generalize D.tup (init ++ [x]) = V at *
    generalize D.tup init = V0 at *
    simp [e2S, hne, c25, c18, hl, hcut, hcut2, hix, hix2, c24]
theorem wk_ok {k : Nat} (hk : 15 ≤ k) (hf : 700 ≤ fuel) (ns : List Int) (j : Nat) (hj : j < 100) (x2 x3 x4 x5 x6 x7 x8 x9 x10 x11 : Option D) (h : AH) :
    ∃ y2 y3 y4 y5 y6 y7 y8 y9 y10 y11 h', exs (tabF L fuel k) fuel wB [some (.rol (ns.map .int)), some (.int j), x2, x3, x4, x5, x6, x7, x8, x9, x10, x11] h = some (.nx, [some (.rol (ns.map .int)), some (.int j), y2, y3, y4, y5, y6, y7, y8, y9, y10, y11], h') := by
  obtain ⟨k, rfl⟩ : ∃ m, k = m + 1 := ⟨k - 1, by omega⟩
  obtain ⟨s, hs⟩ := box_ok (fuel := fuel) k ns j hj
  have c21 : callC (tabF L fuel (k + 1) 21) [.rol (ns.map .int), .int (j : Nat)] h = some (.ref h.length, h ++ [.lst s.ds]) := callM (by simp [closeds_map D.int (fun _ => rfl)]) hs (by simp)
  obtain ⟨n, s1, e1, hn⟩ := tk_nat s 3 (by omega)
  have c22 := c_tkE (fuel := fuel) (k := k + 1) (by omega) 3 (by omega) (by omega) s h
  rw [e1] at c22
  have c22 : callC (tabF L fuel (k + 1) 22) [.ref h.length, .int 3] (h ++ [.lst s.ds]) = some (.int (n : Nat), h ++ [.lst s1.ds]) := c22
  obtain ⟨y4, y5, y6, s2, e2⟩ := tF_ok (fuel := fuel) (k := k + 1) (by omega) (2 + (n : Int)) (by omega) (by omega) s1 (some (.rol (ns.map .int))) (some (.int j)) x4 x5 x6 x7 x8 x9 x10 x11 h
  obtain ⟨bs, s3, e3, hb, hl⟩ := bE_ok (fuel := fuel) (k := k + 1) (by omega) (2 + (n : Int)) (by omega) (by omega) s2 (some (.rol (ns.map .int))) (some (.int j)) y4 y5 y6 x7 x8 x9 x10 x11 h
  obtain ⟨y8, y9, y10, e4⟩ := qF_ok (fuel := fuel) (k := k + 1) (by omega) hb (some (.rol (ns.map .int))) (some (.int j)) (some (.ref h.length)) (some (.int (2 + (n : Int)))) y4 y5 y6 x8 x9 x10 x11 (h ++ [.lst s3.ds])
  have c25 := fun h => c_lchain (fuel := fuel) (k := k + 1) (by omega) (by omega) bs (bd_of hb hl) h
  have e5 := e1_ok (fuel := fuel) (k := k + 1) (by omega) (by omega) (bd_of hb hl) (some (.rol (ns.map .int))) (some (.int j)) (some (.ref h.length)) (some (.int (2 + (n : Int)))) y4 y5 y6 y8 y9 y10 (h ++ [.lst s3.ds])
  have e6 := e2_ok (fuel := fuel) (k := k + 1) (by omega) (by omega) hb hl (some (.rol (ns.map .int))) (some (.int j)) (some (.ref h.length)) (some (.int (2 + (n : Int)))) y4 y5 y6 y8 y9 y10 (h ++ [.lst s3.ds])
  refine ⟨some (.ref h.length), some (.int (2 + (n : Int))), y4, y5, y6, some (.tup bs), y8, y9, y10, some (.int (sumO bs)), h ++ [.lst s3.ds], ?_⟩
  rw [wB]
  rw [exs_sets (d := .ref h.length) (h' := h ++ [.lst s.ds]) (by simp [c21])]
  simp only [List.set_cons_succ, List.set_cons_zero]
  rw [exs_sets (d := .int (2 + (n : Int))) (h' := h ++ [.lst s1.ds]) (by simp [c22])]
  simp only [List.set_cons_succ, List.set_cons_zero]
  rw [exs_go e2]
  rw [exs_sets e3]
  simp only [List.set_cons_succ, List.set_cons_zero]
  rw [exs_go e4]
  rw [exs_sets (d := .int (sumO bs)) (h' := h ++ [.lst s3.ds]) (by
    generalize D.tup bs = V at *
    generalize sumO bs = S at *
    simp [c25])]
  simp only [List.set_cons_succ, List.set_cons_zero]
  rw [exs_go e5]
  exact exs_one e6
theorem rE_ok {k : Nat} (hk : 10 ≤ k) (hf : 302 ≤ fuel) (σ : Sl) (h : AH) : ev (tabF L fuel k) rE σ h = some (.bl true, h) := by
  obtain ⟨k, rfl⟩ : ∃ m, k = m + 1 := ⟨k - 1, by omega⟩
  have c18 : ∀ h, callC (tabF L fuel (k + 1) 18) [.int 0, .non] h = some (.int 1, h) := fun h => c_chained (fuel := fuel) (k := k + 1) (by omega) hf 0 .non rfl (by simp [szD]) h
  have c17a : ∀ H, callC (tabF L fuel (k + 1) 17) [.tup [.str "do", .int 1, .int 2]] H = some (.tup [.str "do", .int 1, .non], H) := fun H => callV rfl (by
    have hcut : cut [.str "do", .int 1, .int 2] none (some 2) = [.str "do", .int 1] := rfl
    have hadd : binop .add (.tup [.str "do", .int 1]) (.tup [.non]) = some (.tup [.str "do", .int 1, .non]) := add_t (by simp [lim])
    rw [tab_step (d := d_hidden_choice) rfl]
    simp [d_hidden_choice, b_hidden_choice, hcut, hadd]
    exact fin_0 rfl) rfl
  have c17b : ∀ H, callC (tabF L fuel (k + 1) 17) [.tup [.str "pass", .int 0]] H = some (.tup [.str "pass", .int 0], H) := fun H => callV rfl (by
    rw [tab_step (d := d_hidden_choice) rfl]
    simp [d_hidden_choice, b_hidden_choice]
    exact fin_0 rfl) rfl
  have c24 := fun h => c_refl (fuel := fuel) (k := k + 1) (d := .tup [.int 1, .tup [.str "do", .int 1, .non], .tup [.str "pass", .int 0]]) rfl rfl (by simp [depD, depDs]; omega) h
  simp [rE, c18, c17a, c17b, c24]
theorem law_true (k fuel : Nat) (hk : 24 ≤ k) (hf : 700 ≤ fuel) (ns : List Int) : ∃ h', tabF L fuel k 36 [.rol (ns.map .int)] [] = some (.bl true, h') := by
  obtain ⟨k, rfl⟩ : ∃ m, k = m + 1 := ⟨k - 1, by omega⟩
  refine ⟨[], ?_⟩
  rw [tab_step (d := d_law) rfl]
  show (exs (tabF L fuel k) fuel b_law [some (.rol (ns.map .int)), none, none, none, none, none, none, none, none, none, none, none] []).bind (kRun false 0) = _
  rw [b_law_eq]
  obtain ⟨N, hN, hX⟩ : ∃ N : Nat, N ≤ 8 ∧ (if (if (6 : Int) < (ns.length : Nat) then (6 : Int) else (ns.length : Nat)) > 3 then (if (6 : Int) < (ns.length : Nat) then (6 : Int) else (ns.length : Nat)) else 3) = (N : Nat) := by
    refine ⟨(if (if (6 : Int) < (ns.length : Nat) then (6 : Int) else (ns.length : Nat)) > 3 then (if (6 : Int) < (ns.length : Nat) then (6 : Int) else (ns.length : Nat)) else 3).toNat, ?_, ?_⟩
    · split <;> split <;> omega
    · split <;> split <;> omega
  have hbm : bltf .max [.int 3, .int (if (6 : Int) < (ns.length : Nat) then (6 : Int) else (ns.length : Nat))] [] = some (.int (N : Nat)) := by rw [blt_max, hX]
  have hbn : bltf .min [.int (ns.length : Nat), .int 6] [] = some (.int (if (6 : Int) < (ns.length : Nat) then (6 : Int) else (ns.length : Nat))) := rfl
  have hrng : rng 0 (N : Nat) = some ((List.range N).map fun i => .int (i : Nat)) := rng_n (by omega)
  obtain ⟨f, σ', h', hw, rfl, y1, y2, y3, y4, y5, y6, y7, y8, y9, y10, y11, rfl⟩ := for_all (tg := .v 1) (len := N) (b := exs (tabF L fuel k) fuel wB) ((List.range N).map fun i => D.int (i : Nat))
    (fun σ h => ∃ y1 y2 y3 y4 y5 y6 y7 y8 y9 y10 y11, σ = [some (.rol (ns.map .int)), y1, y2, y3, y4, y5, y6, y7, y8, y9, y10, y11])
    (fun f σ h => f = .nx ∧ ∃ y1 y2 y3 y4 y5 y6 y7 y8 y9 y10 y11, σ = [some (.rol (ns.map .int)), y1, y2, y3, y4, y5, y6, y7, y8, y9, y10, y11])
    (fun σ h z => ⟨rfl, z⟩)
    (fun x hx σ h ⟨y1, y2, y3, y4, y5, y6, y7, y8, y9, y10, y11, e1⟩ => by
      subst e1
      obtain ⟨j, hj, rfl⟩ := List.mem_map.mp hx
      have hj := List.mem_range.mp hj
      obtain ⟨z2, z3, z4, z5, z6, z7, z8, z9, z10, z11, h', e⟩ := wk_ok (fuel := fuel) (k := k) (by omega) hf ns j (by omega) y2 y3 y4 y5 y6 y7 y8 y9 y10 y11 h
      exact ⟨[some (.rol (ns.map .int)), some (.int (j : Nat)), y2, y3, y4, y5, y6, y7, y8, y9, y10, y11], rfl, .nx, _, h', e, _, _, _, _, _, _, _, _, _, _, _, rfl⟩)
    [some (.rol (ns.map .int)), none, none, none, none, none, none, none, none, none, none, none] [] ⟨_, _, _, _, _, _, _, _, _, _, _, rfl⟩
  have hR := fun σ h => rE_ok (fuel := fuel) (k := k) (by omega) (by omega) σ h
  simp [hbn, hbm, hrng, kFor_ap]
  rw [hw]
  simp [hR]
  exact fin_v rfl
end PyD.K55

namespace PyD.K55
open PySem PySem.Spec PyProof.Rows L2 PyD
def cst : List (PySem.Str × D) := [("NONE", g_NONE), ("NO", g_NO), ("YES", g_YES), ("UP", g_UP), ("DOWN", g_DOWN), ("TEXT", g_TEXT), ("ROW", g_ROW), ("SIGNS", g_SIGNS), ("HOUSE", g_HOUSE), ("WORDS", g_WORDS), ("PRIME", g_PRIME), ("BASE", g_BASE), ("packed", .fn "packed")]
def topS (i : Nat) : Stmt := PySem.Challenge.pw_evenifothers_k55_letters_and_sums.main.body.getD i (.Pass ⟨0, 0, 0, 0⟩)
abbrev s_is_int : Stmt := topS 1
theorem sc_is_int : FnScope d_is_int.NS (["value"] : List Str) (defScope s_is_int) := ⟨rfl, rfl, rfl, by decide +kernel, by decide +kernel, by decide +kernel, by decide +kernel⟩
theorem ck_is_int : okDef L cst d_is_int s_is_int = true := by decide +kernel
abbrev s_is_number : Stmt := topS 2
theorem sc_is_number : FnScope d_is_number.NS (["value", "least", "most"] : List Str) (defScope s_is_number) := ⟨rfl, rfl, rfl, by decide +kernel, by decide +kernel, by decide +kernel, by decide +kernel⟩
theorem ck_is_number : okDef L cst d_is_number s_is_number = true := by decide +kernel
abbrev s_is_tuple : Stmt := topS 3
theorem sc_is_tuple : FnScope d_is_tuple.NS (["value", "many"] : List Str) (defScope s_is_tuple) := ⟨rfl, rfl, rfl, by decide +kernel, by decide +kernel, by decide +kernel, by decide +kernel⟩
theorem ck_is_tuple : okDef L cst d_is_tuple s_is_tuple = true := by decide +kernel
abbrev s_is_numbers : Stmt := topS 4
theorem sc_is_numbers : FnScope d_is_numbers.NS (["value", "many", "least", "most"] : List Str) (defScope s_is_numbers) := ⟨rfl, rfl, rfl, by decide +kernel, by decide +kernel, by decide +kernel, by decide +kernel⟩
theorem ck_is_numbers : okDef L cst d_is_numbers s_is_numbers = true := by decide +kernel
abbrev s_counted : Stmt := topS 14
theorem sc_counted : FnScope d_counted.NS (["number"] : List Str) (defScope s_counted) := ⟨rfl, rfl, rfl, by decide +kernel, by decide +kernel, by decide +kernel, by decide +kernel⟩
theorem ck_counted : okDef L cst d_counted s_counted = true := by decide +kernel
abbrev s_packed : Stmt := topS 15
theorem sc_packed : FnScope d_packed.NS (["value"] : List Str) (defScope s_packed) := ⟨rfl, rfl, rfl, by decide +kernel, by decide +kernel, by decide +kernel, by decide +kernel⟩
theorem ck_packed : okDef L cst d_packed s_packed = true := by decide +kernel
abbrev s_is_choice : Stmt := topS 19
theorem sc_is_choice : FnScope d_is_choice.NS (["value"] : List Str) (defScope s_is_choice) := ⟨rfl, rfl, rfl, by decide +kernel, by decide +kernel, by decide +kernel, by decide +kernel⟩
theorem ck_is_choice : okDef L cst d_is_choice s_is_choice = true := by decide +kernel
abbrev s_is_seen : Stmt := topS 20
theorem sc_is_seen : FnScope d_is_seen.NS (["value"] : List Str) (defScope s_is_seen) := ⟨rfl, rfl, rfl, by decide +kernel, by decide +kernel, by decide +kernel, by decide +kernel⟩
theorem ck_is_seen : okDef L cst d_is_seen s_is_seen = true := by decide +kernel
abbrev s_is_body : Stmt := topS 21
theorem sc_is_body : FnScope d_is_body.NS (["many", "value"] : List Str) (defScope s_is_body) := ⟨rfl, rfl, rfl, by decide +kernel, by decide +kernel, by decide +kernel, by decide +kernel⟩
theorem ck_is_body : okDef L cst d_is_body s_is_body = true := by decide +kernel
abbrev s_is_course_body : Stmt := topS 22
theorem sc_is_course_body : FnScope d_is_course_body.NS (["many", "value"] : List Str) (defScope s_is_course_body) := ⟨rfl, rfl, rfl, by decide +kernel, by decide +kernel, by decide +kernel, by decide +kernel⟩
theorem ck_is_course_body : okDef L cst d_is_course_body s_is_course_body = true := by decide +kernel
abbrev s_asked_by : Stmt := topS 23
theorem sc_asked_by : FnScope d_asked_by.NS (["body"] : List Str) (defScope s_asked_by) := ⟨rfl, rfl, rfl, by decide +kernel, by decide +kernel, by decide +kernel, by decide +kernel⟩
theorem ck_asked_by : okDef L cst d_asked_by s_asked_by = true := by decide +kernel
abbrev s_is_changing_body : Stmt := topS 24
theorem sc_is_changing_body : FnScope d_is_changing_body.NS (["body"] : List Str) (defScope s_is_changing_body) := ⟨rfl, rfl, rfl, by decide +kernel, by decide +kernel, by decide +kernel, by decide +kernel⟩
theorem ck_is_changing_body : okDef L cst d_is_changing_body s_is_changing_body = true := by decide +kernel
abbrev s_is_mark : Stmt := topS 25
theorem sc_is_mark : FnScope d_is_mark.NS (["value"] : List Str) (defScope s_is_mark) := ⟨rfl, rfl, rfl, by decide +kernel, by decide +kernel, by decide +kernel, by decide +kernel⟩
theorem ck_is_mark : okDef L cst d_is_mark s_is_mark = true := by decide +kernel
abbrev s_is_desks_letter : Stmt := topS 26
theorem sc_is_desks_letter : FnScope d_is_desks_letter.NS (["many", "value"] : List Str) (defScope s_is_desks_letter) := ⟨rfl, rfl, rfl, by decide +kernel, by decide +kernel, by decide +kernel, by decide +kernel⟩
theorem ck_is_desks_letter : okDef L cst d_is_desks_letter s_is_desks_letter = true := by decide +kernel
abbrev s_is_agreeing : Stmt := topS 27
theorem sc_is_agreeing : FnScope d_is_agreeing.NS (["many", "value"] : List Str) (defScope s_is_agreeing) := ⟨rfl, rfl, rfl, by decide +kernel, by decide +kernel, by decide +kernel, by decide +kernel⟩
theorem ck_is_agreeing : okDef L cst d_is_agreeing s_is_agreeing = true := by decide +kernel
abbrev s_is_letter : Stmt := topS 28
theorem sc_is_letter : FnScope d_is_letter.NS (["many", "value"] : List Str) (defScope s_is_letter) := ⟨rfl, rfl, rfl, by decide +kernel, by decide +kernel, by decide +kernel, by decide +kernel⟩
theorem ck_is_letter : okDef L cst d_is_letter s_is_letter = true := by decide +kernel
abbrev s_whose_letter : Stmt := topS 29
theorem sc_whose_letter : FnScope d_whose_letter.NS (["letter"] : List Str) (defScope s_whose_letter) := ⟨rfl, rfl, rfl, by decide +kernel, by decide +kernel, by decide +kernel, by decide +kernel⟩
theorem ck_whose_letter : okDef L cst d_whose_letter s_whose_letter = true := by decide +kernel
abbrev s_hidden_choice : Stmt := topS 30
theorem sc_hidden_choice : FnScope d_hidden_choice.NS (["choice"] : List Str) (defScope s_hidden_choice) := ⟨rfl, rfl, rfl, by decide +kernel, by decide +kernel, by decide +kernel, by decide +kernel⟩
theorem ck_hidden_choice : okDef L cst d_hidden_choice s_hidden_choice = true := by decide +kernel
abbrev s_chained : Stmt := topS 34
theorem sc_chained : FnScope d_chained.NS (["ahead", "body"] : List Str) (defScope s_chained) := ⟨rfl, rfl, rfl, by decide +kernel, by decide +kernel, by decide +kernel, by decide +kernel⟩
theorem ck_chained : okDef L cst d_chained s_chained = true := by decide +kernel
abbrev s_sum_of : Stmt := topS 35
theorem sc_sum_of : FnScope d_sum_of.NS (["bodies"] : List Str) (defScope s_sum_of) := ⟨rfl, rfl, rfl, by decide +kernel, by decide +kernel, by decide +kernel, by decide +kernel⟩
theorem ck_sum_of : okDef L cst d_sum_of s_sum_of = true := by decide +kernel
abbrev s_mark_of : Stmt := topS 36
theorem sc_mark_of : FnScope d_mark_of.NS (["bodies"] : List Str) (defScope s_mark_of) := ⟨rfl, rfl, rfl, by decide +kernel, by decide +kernel, by decide +kernel, by decide +kernel⟩
theorem ck_mark_of : okDef L cst d_mark_of s_mark_of = true := by decide +kernel
abbrev s__law_box : Stmt := topS 38
theorem sc__law_box : FnScope d__law_box.NS (["script", "k"] : List Str) (defScope s__law_box) := ⟨rfl, rfl, rfl, by decide +kernel, by decide +kernel, by decide +kernel, by decide +kernel⟩
theorem ck__law_box : okDef L cst d__law_box s__law_box = true := by decide +kernel
abbrev s__law_take : Stmt := topS 39
theorem sc__law_take : FnScope d__law_take.NS (["box", "many"] : List Str) (defScope s__law_take) := ⟨rfl, rfl, rfl, by decide +kernel, by decide +kernel, by decide +kernel, by decide +kernel⟩
theorem ck__law_take : okDef L cst d__law_take s__law_take = true := by decide +kernel
abbrev s__law_pick : Stmt := topS 40
theorem sc__law_pick : FnScope d__law_pick.NS (["box", "some"] : List Str) (defScope s__law_pick) := ⟨rfl, rfl, rfl, by decide +kernel, by decide +kernel, by decide +kernel, by decide +kernel⟩
theorem ck__law_pick : okDef L cst d__law_pick s__law_pick = true := by decide +kernel
abbrev s__law_same : Stmt := topS 41
theorem sc__law_same : FnScope d__law_same.NS (["told", "due"] : List Str) (defScope s__law_same) := ⟨rfl, rfl, rfl, by decide +kernel, by decide +kernel, by decide +kernel, by decide +kernel⟩
theorem ck__law_same : okDef L cst d__law_same s__law_same = true := by decide +kernel
abbrev s__law_chain : Stmt := topS 42
theorem sc__law_chain : FnScope d__law_chain.NS (["bodies", "octets_of"] : List Str) (defScope s__law_chain) := ⟨rfl, rfl, rfl, by decide +kernel, by decide +kernel, by decide +kernel, by decide +kernel⟩
theorem ck__law_chain : okDef L cst d__law_chain s__law_chain = true := by decide +kernel
abbrev s__law_is_changing : Stmt := topS 43
theorem sc__law_is_changing : FnScope d__law_is_changing.NS (["body"] : List Str) (defScope s__law_is_changing) := ⟨rfl, rfl, rfl, by decide +kernel, by decide +kernel, by decide +kernel, by decide +kernel⟩
theorem ck__law_is_changing : okDef L cst d__law_is_changing s__law_is_changing = true := by decide +kernel
abbrev s__law_is_number : Stmt := topS 44
theorem sc__law_is_number : FnScope d__law_is_number.NS (["value", "least", "most"] : List Str) (defScope s__law_is_number) := ⟨rfl, rfl, rfl, by decide +kernel, by decide +kernel, by decide +kernel, by decide +kernel⟩
theorem ck__law_is_number : okDef L cst d__law_is_number s__law_is_number = true := by decide +kernel
abbrev s__law_are_numbers : Stmt := topS 45
theorem sc__law_are_numbers : FnScope d__law_are_numbers.NS (["value", "many"] : List Str) (defScope s__law_are_numbers) := ⟨rfl, rfl, rfl, by decide +kernel, by decide +kernel, by decide +kernel, by decide +kernel⟩
theorem ck__law_are_numbers : okDef L cst d__law_are_numbers s__law_are_numbers = true := by decide +kernel
abbrev s__law_starts : Stmt := topS 46
theorem sc__law_starts : FnScope d__law_starts.NS (["value", "many", "word"] : List Str) (defScope s__law_starts) := ⟨rfl, rfl, rfl, by decide +kernel, by decide +kernel, by decide +kernel, by decide +kernel⟩
theorem ck__law_starts : okDef L cst d__law_starts s__law_starts = true := by decide +kernel
abbrev s__law_is_choice : Stmt := topS 47
theorem sc__law_is_choice : FnScope d__law_is_choice.NS (["value"] : List Str) (defScope s__law_is_choice) := ⟨rfl, rfl, rfl, by decide +kernel, by decide +kernel, by decide +kernel, by decide +kernel⟩
theorem ck__law_is_choice : okDef L cst d__law_is_choice s__law_is_choice = true := by decide +kernel
abbrev s__law_is_body : Stmt := topS 48
theorem sc__law_is_body : FnScope d__law_is_body.NS (["many", "value"] : List Str) (defScope s__law_is_body) := ⟨rfl, rfl, rfl, by decide +kernel, by decide +kernel, by decide +kernel, by decide +kernel⟩
theorem ck__law_is_body : okDef L cst d__law_is_body s__law_is_body = true := by decide +kernel
abbrev s__law_is_letter : Stmt := topS 49
theorem sc__law_is_letter : FnScope d__law_is_letter.NS (["many", "value"] : List Str) (defScope s__law_is_letter) := ⟨rfl, rfl, rfl, by decide +kernel, by decide +kernel, by decide +kernel, by decide +kernel⟩
theorem ck__law_is_letter : okDef L cst d__law_is_letter s__law_is_letter = true := by decide +kernel
abbrev s__law_some_body : Stmt := topS 50
theorem sc__law_some_body : FnScope d__law_some_body.NS (["box", "many"] : List Str) (defScope s__law_some_body) := ⟨rfl, rfl, rfl, by decide +kernel, by decide +kernel, by decide +kernel, by decide +kernel⟩
theorem ck__law_some_body : okDef L cst d__law_some_body s__law_some_body = true := by decide +kernel
abbrev s__law_some_letter : Stmt := topS 51
theorem sc__law_some_letter : FnScope d__law_some_letter.NS (["box", "many"] : List Str) (defScope s__law_some_letter) := ⟨rfl, rfl, rfl, by decide +kernel, by decide +kernel, by decide +kernel, by decide +kernel⟩
theorem ck__law_some_letter : okDef L cst d__law_some_letter s__law_some_letter = true := by decide +kernel
abbrev s__law_turned : Stmt := topS 52
theorem sc__law_turned : FnScope d__law_turned.NS (["box", "value"] : List Str) (defScope s__law_turned) := ⟨rfl, rfl, rfl, by decide +kernel, by decide +kernel, by decide +kernel, by decide +kernel⟩
theorem ck__law_turned : okDef L cst d__law_turned s__law_turned = true := by decide +kernel
abbrev s_law : Stmt := topS 53
theorem sc_law : FnScope d_law.NS (["script"] : List Str) (defScope s_law) := ⟨rfl, rfl, rfl, by decide +kernel, by decide +kernel, by decide +kernel, by decide +kernel⟩
theorem ck_law : okDef L cst d_law s_law = true := by decide +kernel
theorem all_mk {l : PySem.W.OpenLaw} {w : World} {K : PySem.W.Frag} {h : Heap} {mg : Str → Option Value} {fa : Addr} (X : K.In h) (G : h.Ns mainGlobals mg) (hfa : mg "law" = some (.ref fa))
    {f0 : Addr} {od0 an0 : Option Addr} {sl0 : Array (Option Value)} {oc0 kV0 dc0 pm0 cd0 ct0 : Value}
    {f1 : Addr} {od1 an1 : Option Addr} {sl1 : Array (Option Value)} {oc1 kV1 dc1 pm1 cd1 ct1 : Value}
    {T1 : Addr} {ot1 : Value} {ho1 : Option Addr} {ta1 : Array Value} {tn1 : Nat} {st1 : Array (Option Value)}
    {f2 : Addr} {od2 an2 : Option Addr} {sl2 : Array (Option Value)} {oc2 kV2 dc2 pm2 cd2 ct2 : Value}
    {T2 : Addr} {ot2 : Value} {ho2 : Option Addr} {ta2 : Array Value} {tn2 : Nat} {st2 : Array (Option Value)}
    {f3 : Addr} {od3 an3 : Option Addr} {sl3 : Array (Option Value)} {oc3 kV3 dc3 pm3 cd3 ct3 : Value}
    {T3 : Addr} {ot3 : Value} {ho3 : Option Addr} {ta3 : Array Value} {tn3 : Nat} {st3 : Array (Option Value)}
    {f4 : Addr} {od4 an4 : Option Addr} {sl4 : Array (Option Value)} {oc4 kV4 dc4 pm4 cd4 ct4 : Value}
    {f5 : Addr} {od5 an5 : Option Addr} {sl5 : Array (Option Value)} {oc5 kV5 dc5 pm5 cd5 ct5 : Value}
    {f6 : Addr} {od6 an6 : Option Addr} {sl6 : Array (Option Value)} {oc6 kV6 dc6 pm6 cd6 ct6 : Value}
    {f7 : Addr} {od7 an7 : Option Addr} {sl7 : Array (Option Value)} {oc7 kV7 dc7 pm7 cd7 ct7 : Value}
    {f8 : Addr} {od8 an8 : Option Addr} {sl8 : Array (Option Value)} {oc8 kV8 dc8 pm8 cd8 ct8 : Value}
    {f9 : Addr} {od9 an9 : Option Addr} {sl9 : Array (Option Value)} {oc9 kV9 dc9 pm9 cd9 ct9 : Value}
    {f10 : Addr} {od10 an10 : Option Addr} {sl10 : Array (Option Value)} {oc10 kV10 dc10 pm10 cd10 ct10 : Value}
    {f11 : Addr} {od11 an11 : Option Addr} {sl11 : Array (Option Value)} {oc11 kV11 dc11 pm11 cd11 ct11 : Value}
    {f12 : Addr} {od12 an12 : Option Addr} {sl12 : Array (Option Value)} {oc12 kV12 dc12 pm12 cd12 ct12 : Value}
    {f13 : Addr} {od13 an13 : Option Addr} {sl13 : Array (Option Value)} {oc13 kV13 dc13 pm13 cd13 ct13 : Value}
    {f14 : Addr} {od14 an14 : Option Addr} {sl14 : Array (Option Value)} {oc14 kV14 dc14 pm14 cd14 ct14 : Value}
    {f15 : Addr} {od15 an15 : Option Addr} {sl15 : Array (Option Value)} {oc15 kV15 dc15 pm15 cd15 ct15 : Value}
    {f16 : Addr} {od16 an16 : Option Addr} {sl16 : Array (Option Value)} {oc16 kV16 dc16 pm16 cd16 ct16 : Value}
    {f17 : Addr} {od17 an17 : Option Addr} {sl17 : Array (Option Value)} {oc17 kV17 dc17 pm17 cd17 ct17 : Value}
    {f18 : Addr} {od18 an18 : Option Addr} {sl18 : Array (Option Value)} {oc18 kV18 dc18 pm18 cd18 ct18 : Value}
    {f19 : Addr} {od19 an19 : Option Addr} {sl19 : Array (Option Value)} {oc19 kV19 dc19 pm19 cd19 ct19 : Value}
    {f20 : Addr} {od20 an20 : Option Addr} {sl20 : Array (Option Value)} {oc20 kV20 dc20 pm20 cd20 ct20 : Value}
    {f21 : Addr} {od21 an21 : Option Addr} {sl21 : Array (Option Value)} {oc21 kV21 dc21 pm21 cd21 ct21 : Value}
    {f22 : Addr} {od22 an22 : Option Addr} {sl22 : Array (Option Value)} {oc22 kV22 dc22 pm22 cd22 ct22 : Value}
    {f23 : Addr} {od23 an23 : Option Addr} {sl23 : Array (Option Value)} {oc23 kV23 dc23 pm23 cd23 ct23 : Value}
    {f24 : Addr} {od24 an24 : Option Addr} {sl24 : Array (Option Value)} {oc24 kV24 dc24 pm24 cd24 ct24 : Value}
    {f25 : Addr} {od25 an25 : Option Addr} {sl25 : Array (Option Value)} {oc25 kV25 dc25 pm25 cd25 ct25 : Value}
    {f26 : Addr} {od26 an26 : Option Addr} {sl26 : Array (Option Value)} {oc26 kV26 dc26 pm26 cd26 ct26 : Value}
    {f27 : Addr} {od27 an27 : Option Addr} {sl27 : Array (Option Value)} {oc27 kV27 dc27 pm27 cd27 ct27 : Value}
    {f28 : Addr} {od28 an28 : Option Addr} {sl28 : Array (Option Value)} {oc28 kV28 dc28 pm28 cd28 ct28 : Value}
    {f29 : Addr} {od29 an29 : Option Addr} {sl29 : Array (Option Value)} {oc29 kV29 dc29 pm29 cd29 ct29 : Value}
    {f30 : Addr} {od30 an30 : Option Addr} {sl30 : Array (Option Value)} {oc30 kV30 dc30 pm30 cd30 ct30 : Value}
    {f31 : Addr} {od31 an31 : Option Addr} {sl31 : Array (Option Value)} {oc31 kV31 dc31 pm31 cd31 ct31 : Value}
    {f32 : Addr} {od32 an32 : Option Addr} {sl32 : Array (Option Value)} {oc32 kV32 dc32 pm32 cd32 ct32 : Value}
    {f33 : Addr} {od33 an33 : Option Addr} {sl33 : Array (Option Value)} {oc33 kV33 dc33 pm33 cd33 ct33 : Value}
    {f34 : Addr} {od34 an34 : Option Addr} {sl34 : Array (Option Value)} {oc34 kV34 dc34 pm34 cd34 ct34 : Value}
    {f35 : Addr} {od35 an35 : Option Addr} {sl35 : Array (Option Value)} {oc35 kV35 dc35 pm35 cd35 ct35 : Value}
    {f36 : Addr} {od36 an36 : Option Addr} {sl36 : Array (Option Value)} {oc36 kV36 dc36 pm36 cd36 ct36 : Value}
    {u_NONE : Value}
    {u_NO : Value}
    {u_YES : Value}
    {u_UP : Value}
    {u_DOWN : Value}
    {u_TEXT : Value}
    {u_ROW : Value}
    {u_SIGNS : Value}
    {u_HOUSE : Value}
    {u_WORDS : Value}
    {u_PRIME : Value}
    {u_BASE : Value}
    {o_WORDS : Addr} {h_WORDS : Option Addr} {t_WORDS : Array Value} {n_WORDS : Nat} {l_WORDS : Array (Option Value)}
    (a0 : PySem.W.nsIn K mainGlobals "is_int" = some (some (.ref f0)))
    (l0 : K.lookup f0 = some ⟨oc0, od0, .func (PySem.W.fnOf "is_int" "is_int" (defArgs s_is_int) (defBody s_is_int) (defScope s_is_int) .none kV0 dc0 pm0 an0 cd0 ct0), sl0⟩)
    (c0 : PySem.W.codeIn K cd0 "is_int" = true)
    (k0 : PySem.W.keepIn K (.ref f0) = true)
    (a1 : PySem.W.nsIn K mainGlobals "is_number" = some (some (.ref f1)))
    (l1 : K.lookup f1 = some ⟨oc1, od1, .func (PySem.W.fnOf "is_number" "is_number" (defArgs s_is_number) (defBody s_is_number) (defScope s_is_number) (.ref T1) kV1 dc1 pm1 an1 cd1 ct1), sl1⟩)
    (t1 : K.lookup T1 = some ⟨ot1, ho1, .seq ta1 tn1, st1⟩)
    (v1 : Vals [(.int 0), .non] ta1.toList)
    (c1 : PySem.W.codeIn K cd1 "is_number" = true)
    (k1 : PySem.W.keepIn K (.ref f1) = true)
    (a2 : PySem.W.nsIn K mainGlobals "is_tuple" = some (some (.ref f2)))
    (l2 : K.lookup f2 = some ⟨oc2, od2, .func (PySem.W.fnOf "is_tuple" "is_tuple" (defArgs s_is_tuple) (defBody s_is_tuple) (defScope s_is_tuple) (.ref T2) kV2 dc2 pm2 an2 cd2 ct2), sl2⟩)
    (t2 : K.lookup T2 = some ⟨ot2, ho2, .seq ta2 tn2, st2⟩)
    (v2 : Vals [.non] ta2.toList)
    (c2 : PySem.W.codeIn K cd2 "is_tuple" = true)
    (k2 : PySem.W.keepIn K (.ref f2) = true)
    (a3 : PySem.W.nsIn K mainGlobals "is_numbers" = some (some (.ref f3)))
    (l3 : K.lookup f3 = some ⟨oc3, od3, .func (PySem.W.fnOf "is_numbers" "is_numbers" (defArgs s_is_numbers) (defBody s_is_numbers) (defScope s_is_numbers) (.ref T3) kV3 dc3 pm3 an3 cd3 ct3), sl3⟩)
    (t3 : K.lookup T3 = some ⟨ot3, ho3, .seq ta3 tn3, st3⟩)
    (v3 : Vals [(.int 0), .non] ta3.toList)
    (c3 : PySem.W.codeIn K cd3 "is_numbers" = true)
    (k3 : PySem.W.keepIn K (.ref f3) = true)
    (a4 : PySem.W.nsIn K mainGlobals "counted" = some (some (.ref f4)))
    (l4 : K.lookup f4 = some ⟨oc4, od4, .func (PySem.W.fnOf "counted" "counted" (defArgs s_counted) (defBody s_counted) (defScope s_counted) .none kV4 dc4 pm4 an4 cd4 ct4), sl4⟩)
    (c4 : PySem.W.codeIn K cd4 "counted" = true)
    (k4 : PySem.W.keepIn K (.ref f4) = true)
    (a5 : PySem.W.nsIn K mainGlobals "packed" = some (some (.ref f5)))
    (l5 : K.lookup f5 = some ⟨oc5, od5, .func (PySem.W.fnOf "packed" "packed" (defArgs s_packed) (defBody s_packed) (defScope s_packed) .none kV5 dc5 pm5 an5 cd5 ct5), sl5⟩)
    (c5 : PySem.W.codeIn K cd5 "packed" = true)
    (k5 : PySem.W.keepIn K (.ref f5) = true)
    (a6 : PySem.W.nsIn K mainGlobals "is_choice" = some (some (.ref f6)))
    (l6 : K.lookup f6 = some ⟨oc6, od6, .func (PySem.W.fnOf "is_choice" "is_choice" (defArgs s_is_choice) (defBody s_is_choice) (defScope s_is_choice) .none kV6 dc6 pm6 an6 cd6 ct6), sl6⟩)
    (c6 : PySem.W.codeIn K cd6 "is_choice" = true)
    (k6 : PySem.W.keepIn K (.ref f6) = true)
    (a7 : PySem.W.nsIn K mainGlobals "is_seen" = some (some (.ref f7)))
    (l7 : K.lookup f7 = some ⟨oc7, od7, .func (PySem.W.fnOf "is_seen" "is_seen" (defArgs s_is_seen) (defBody s_is_seen) (defScope s_is_seen) .none kV7 dc7 pm7 an7 cd7 ct7), sl7⟩)
    (c7 : PySem.W.codeIn K cd7 "is_seen" = true)
    (k7 : PySem.W.keepIn K (.ref f7) = true)
    (a8 : PySem.W.nsIn K mainGlobals "is_body" = some (some (.ref f8)))
    (l8 : K.lookup f8 = some ⟨oc8, od8, .func (PySem.W.fnOf "is_body" "is_body" (defArgs s_is_body) (defBody s_is_body) (defScope s_is_body) .none kV8 dc8 pm8 an8 cd8 ct8), sl8⟩)
    (c8 : PySem.W.codeIn K cd8 "is_body" = true)
    (k8 : PySem.W.keepIn K (.ref f8) = true)
    (a9 : PySem.W.nsIn K mainGlobals "is_course_body" = some (some (.ref f9)))
    (l9 : K.lookup f9 = some ⟨oc9, od9, .func (PySem.W.fnOf "is_course_body" "is_course_body" (defArgs s_is_course_body) (defBody s_is_course_body) (defScope s_is_course_body) .none kV9 dc9 pm9 an9 cd9 ct9), sl9⟩)
    (c9 : PySem.W.codeIn K cd9 "is_course_body" = true)
    (k9 : PySem.W.keepIn K (.ref f9) = true)
    (a10 : PySem.W.nsIn K mainGlobals "asked_by" = some (some (.ref f10)))
    (l10 : K.lookup f10 = some ⟨oc10, od10, .func (PySem.W.fnOf "asked_by" "asked_by" (defArgs s_asked_by) (defBody s_asked_by) (defScope s_asked_by) .none kV10 dc10 pm10 an10 cd10 ct10), sl10⟩)
    (c10 : PySem.W.codeIn K cd10 "asked_by" = true)
    (k10 : PySem.W.keepIn K (.ref f10) = true)
    (a11 : PySem.W.nsIn K mainGlobals "is_changing_body" = some (some (.ref f11)))
    (l11 : K.lookup f11 = some ⟨oc11, od11, .func (PySem.W.fnOf "is_changing_body" "is_changing_body" (defArgs s_is_changing_body) (defBody s_is_changing_body) (defScope s_is_changing_body) .none kV11 dc11 pm11 an11 cd11 ct11), sl11⟩)
    (c11 : PySem.W.codeIn K cd11 "is_changing_body" = true)
    (k11 : PySem.W.keepIn K (.ref f11) = true)
    (a12 : PySem.W.nsIn K mainGlobals "is_mark" = some (some (.ref f12)))
    (l12 : K.lookup f12 = some ⟨oc12, od12, .func (PySem.W.fnOf "is_mark" "is_mark" (defArgs s_is_mark) (defBody s_is_mark) (defScope s_is_mark) .none kV12 dc12 pm12 an12 cd12 ct12), sl12⟩)
    (c12 : PySem.W.codeIn K cd12 "is_mark" = true)
    (k12 : PySem.W.keepIn K (.ref f12) = true)
    (a13 : PySem.W.nsIn K mainGlobals "is_desks_letter" = some (some (.ref f13)))
    (l13 : K.lookup f13 = some ⟨oc13, od13, .func (PySem.W.fnOf "is_desks_letter" "is_desks_letter" (defArgs s_is_desks_letter) (defBody s_is_desks_letter) (defScope s_is_desks_letter) .none kV13 dc13 pm13 an13 cd13 ct13), sl13⟩)
    (c13 : PySem.W.codeIn K cd13 "is_desks_letter" = true)
    (k13 : PySem.W.keepIn K (.ref f13) = true)
    (a14 : PySem.W.nsIn K mainGlobals "is_agreeing" = some (some (.ref f14)))
    (l14 : K.lookup f14 = some ⟨oc14, od14, .func (PySem.W.fnOf "is_agreeing" "is_agreeing" (defArgs s_is_agreeing) (defBody s_is_agreeing) (defScope s_is_agreeing) .none kV14 dc14 pm14 an14 cd14 ct14), sl14⟩)
    (c14 : PySem.W.codeIn K cd14 "is_agreeing" = true)
    (k14 : PySem.W.keepIn K (.ref f14) = true)
    (a15 : PySem.W.nsIn K mainGlobals "is_letter" = some (some (.ref f15)))
    (l15 : K.lookup f15 = some ⟨oc15, od15, .func (PySem.W.fnOf "is_letter" "is_letter" (defArgs s_is_letter) (defBody s_is_letter) (defScope s_is_letter) .none kV15 dc15 pm15 an15 cd15 ct15), sl15⟩)
    (c15 : PySem.W.codeIn K cd15 "is_letter" = true)
    (k15 : PySem.W.keepIn K (.ref f15) = true)
    (a16 : PySem.W.nsIn K mainGlobals "whose_letter" = some (some (.ref f16)))
    (l16 : K.lookup f16 = some ⟨oc16, od16, .func (PySem.W.fnOf "whose_letter" "whose_letter" (defArgs s_whose_letter) (defBody s_whose_letter) (defScope s_whose_letter) .none kV16 dc16 pm16 an16 cd16 ct16), sl16⟩)
    (c16 : PySem.W.codeIn K cd16 "whose_letter" = true)
    (k16 : PySem.W.keepIn K (.ref f16) = true)
    (a17 : PySem.W.nsIn K mainGlobals "hidden_choice" = some (some (.ref f17)))
    (l17 : K.lookup f17 = some ⟨oc17, od17, .func (PySem.W.fnOf "hidden_choice" "hidden_choice" (defArgs s_hidden_choice) (defBody s_hidden_choice) (defScope s_hidden_choice) .none kV17 dc17 pm17 an17 cd17 ct17), sl17⟩)
    (c17 : PySem.W.codeIn K cd17 "hidden_choice" = true)
    (k17 : PySem.W.keepIn K (.ref f17) = true)
    (a18 : PySem.W.nsIn K mainGlobals "chained" = some (some (.ref f18)))
    (l18 : K.lookup f18 = some ⟨oc18, od18, .func (PySem.W.fnOf "chained" "chained" (defArgs s_chained) (defBody s_chained) (defScope s_chained) .none kV18 dc18 pm18 an18 cd18 ct18), sl18⟩)
    (c18 : PySem.W.codeIn K cd18 "chained" = true)
    (k18 : PySem.W.keepIn K (.ref f18) = true)
    (a19 : PySem.W.nsIn K mainGlobals "sum_of" = some (some (.ref f19)))
    (l19 : K.lookup f19 = some ⟨oc19, od19, .func (PySem.W.fnOf "sum_of" "sum_of" (defArgs s_sum_of) (defBody s_sum_of) (defScope s_sum_of) .none kV19 dc19 pm19 an19 cd19 ct19), sl19⟩)
    (c19 : PySem.W.codeIn K cd19 "sum_of" = true)
    (k19 : PySem.W.keepIn K (.ref f19) = true)
    (a20 : PySem.W.nsIn K mainGlobals "mark_of" = some (some (.ref f20)))
    (l20 : K.lookup f20 = some ⟨oc20, od20, .func (PySem.W.fnOf "mark_of" "mark_of" (defArgs s_mark_of) (defBody s_mark_of) (defScope s_mark_of) .none kV20 dc20 pm20 an20 cd20 ct20), sl20⟩)
    (c20 : PySem.W.codeIn K cd20 "mark_of" = true)
    (k20 : PySem.W.keepIn K (.ref f20) = true)
    (a21 : PySem.W.nsIn K mainGlobals "_law_box" = some (some (.ref f21)))
    (l21 : K.lookup f21 = some ⟨oc21, od21, .func (PySem.W.fnOf "_law_box" "_law_box" (defArgs s__law_box) (defBody s__law_box) (defScope s__law_box) .none kV21 dc21 pm21 an21 cd21 ct21), sl21⟩)
    (c21 : PySem.W.codeIn K cd21 "_law_box" = true)
    (k21 : PySem.W.keepIn K (.ref f21) = true)
    (a22 : PySem.W.nsIn K mainGlobals "_law_take" = some (some (.ref f22)))
    (l22 : K.lookup f22 = some ⟨oc22, od22, .func (PySem.W.fnOf "_law_take" "_law_take" (defArgs s__law_take) (defBody s__law_take) (defScope s__law_take) .none kV22 dc22 pm22 an22 cd22 ct22), sl22⟩)
    (c22 : PySem.W.codeIn K cd22 "_law_take" = true)
    (k22 : PySem.W.keepIn K (.ref f22) = true)
    (a23 : PySem.W.nsIn K mainGlobals "_law_pick" = some (some (.ref f23)))
    (l23 : K.lookup f23 = some ⟨oc23, od23, .func (PySem.W.fnOf "_law_pick" "_law_pick" (defArgs s__law_pick) (defBody s__law_pick) (defScope s__law_pick) .none kV23 dc23 pm23 an23 cd23 ct23), sl23⟩)
    (c23 : PySem.W.codeIn K cd23 "_law_pick" = true)
    (k23 : PySem.W.keepIn K (.ref f23) = true)
    (a24 : PySem.W.nsIn K mainGlobals "_law_same" = some (some (.ref f24)))
    (l24 : K.lookup f24 = some ⟨oc24, od24, .func (PySem.W.fnOf "_law_same" "_law_same" (defArgs s__law_same) (defBody s__law_same) (defScope s__law_same) .none kV24 dc24 pm24 an24 cd24 ct24), sl24⟩)
    (c24 : PySem.W.codeIn K cd24 "_law_same" = true)
    (k24 : PySem.W.keepIn K (.ref f24) = true)
    (a25 : PySem.W.nsIn K mainGlobals "_law_chain" = some (some (.ref f25)))
    (l25 : K.lookup f25 = some ⟨oc25, od25, .func (PySem.W.fnOf "_law_chain" "_law_chain" (defArgs s__law_chain) (defBody s__law_chain) (defScope s__law_chain) .none kV25 dc25 pm25 an25 cd25 ct25), sl25⟩)
    (c25 : PySem.W.codeIn K cd25 "_law_chain" = true)
    (k25 : PySem.W.keepIn K (.ref f25) = true)
    (a26 : PySem.W.nsIn K mainGlobals "_law_is_changing" = some (some (.ref f26)))
    (l26 : K.lookup f26 = some ⟨oc26, od26, .func (PySem.W.fnOf "_law_is_changing" "_law_is_changing" (defArgs s__law_is_changing) (defBody s__law_is_changing) (defScope s__law_is_changing) .none kV26 dc26 pm26 an26 cd26 ct26), sl26⟩)
    (c26 : PySem.W.codeIn K cd26 "_law_is_changing" = true)
    (k26 : PySem.W.keepIn K (.ref f26) = true)
    (a27 : PySem.W.nsIn K mainGlobals "_law_is_number" = some (some (.ref f27)))
    (l27 : K.lookup f27 = some ⟨oc27, od27, .func (PySem.W.fnOf "_law_is_number" "_law_is_number" (defArgs s__law_is_number) (defBody s__law_is_number) (defScope s__law_is_number) .none kV27 dc27 pm27 an27 cd27 ct27), sl27⟩)
    (c27 : PySem.W.codeIn K cd27 "_law_is_number" = true)
    (k27 : PySem.W.keepIn K (.ref f27) = true)
    (a28 : PySem.W.nsIn K mainGlobals "_law_are_numbers" = some (some (.ref f28)))
    (l28 : K.lookup f28 = some ⟨oc28, od28, .func (PySem.W.fnOf "_law_are_numbers" "_law_are_numbers" (defArgs s__law_are_numbers) (defBody s__law_are_numbers) (defScope s__law_are_numbers) .none kV28 dc28 pm28 an28 cd28 ct28), sl28⟩)
    (c28 : PySem.W.codeIn K cd28 "_law_are_numbers" = true)
    (k28 : PySem.W.keepIn K (.ref f28) = true)
    (a29 : PySem.W.nsIn K mainGlobals "_law_starts" = some (some (.ref f29)))
    (l29 : K.lookup f29 = some ⟨oc29, od29, .func (PySem.W.fnOf "_law_starts" "_law_starts" (defArgs s__law_starts) (defBody s__law_starts) (defScope s__law_starts) .none kV29 dc29 pm29 an29 cd29 ct29), sl29⟩)
    (c29 : PySem.W.codeIn K cd29 "_law_starts" = true)
    (k29 : PySem.W.keepIn K (.ref f29) = true)
    (a30 : PySem.W.nsIn K mainGlobals "_law_is_choice" = some (some (.ref f30)))
    (l30 : K.lookup f30 = some ⟨oc30, od30, .func (PySem.W.fnOf "_law_is_choice" "_law_is_choice" (defArgs s__law_is_choice) (defBody s__law_is_choice) (defScope s__law_is_choice) .none kV30 dc30 pm30 an30 cd30 ct30), sl30⟩)
    (c30 : PySem.W.codeIn K cd30 "_law_is_choice" = true)
    (k30 : PySem.W.keepIn K (.ref f30) = true)
    (a31 : PySem.W.nsIn K mainGlobals "_law_is_body" = some (some (.ref f31)))
    (l31 : K.lookup f31 = some ⟨oc31, od31, .func (PySem.W.fnOf "_law_is_body" "_law_is_body" (defArgs s__law_is_body) (defBody s__law_is_body) (defScope s__law_is_body) .none kV31 dc31 pm31 an31 cd31 ct31), sl31⟩)
    (c31 : PySem.W.codeIn K cd31 "_law_is_body" = true)
    (k31 : PySem.W.keepIn K (.ref f31) = true)
    (a32 : PySem.W.nsIn K mainGlobals "_law_is_letter" = some (some (.ref f32)))
    (l32 : K.lookup f32 = some ⟨oc32, od32, .func (PySem.W.fnOf "_law_is_letter" "_law_is_letter" (defArgs s__law_is_letter) (defBody s__law_is_letter) (defScope s__law_is_letter) .none kV32 dc32 pm32 an32 cd32 ct32), sl32⟩)
    (c32 : PySem.W.codeIn K cd32 "_law_is_letter" = true)
    (k32 : PySem.W.keepIn K (.ref f32) = true)
    (a33 : PySem.W.nsIn K mainGlobals "_law_some_body" = some (some (.ref f33)))
    (l33 : K.lookup f33 = some ⟨oc33, od33, .func (PySem.W.fnOf "_law_some_body" "_law_some_body" (defArgs s__law_some_body) (defBody s__law_some_body) (defScope s__law_some_body) .none kV33 dc33 pm33 an33 cd33 ct33), sl33⟩)
    (c33 : PySem.W.codeIn K cd33 "_law_some_body" = true)
    (k33 : PySem.W.keepIn K (.ref f33) = true)
    (a34 : PySem.W.nsIn K mainGlobals "_law_some_letter" = some (some (.ref f34)))
    (l34 : K.lookup f34 = some ⟨oc34, od34, .func (PySem.W.fnOf "_law_some_letter" "_law_some_letter" (defArgs s__law_some_letter) (defBody s__law_some_letter) (defScope s__law_some_letter) .none kV34 dc34 pm34 an34 cd34 ct34), sl34⟩)
    (c34 : PySem.W.codeIn K cd34 "_law_some_letter" = true)
    (k34 : PySem.W.keepIn K (.ref f34) = true)
    (a35 : PySem.W.nsIn K mainGlobals "_law_turned" = some (some (.ref f35)))
    (l35 : K.lookup f35 = some ⟨oc35, od35, .func (PySem.W.fnOf "_law_turned" "_law_turned" (defArgs s__law_turned) (defBody s__law_turned) (defScope s__law_turned) .none kV35 dc35 pm35 an35 cd35 ct35), sl35⟩)
    (c35 : PySem.W.codeIn K cd35 "_law_turned" = true)
    (k35 : PySem.W.keepIn K (.ref f35) = true)
    (a36 : PySem.W.nsIn K mainGlobals "law" = some (some (.ref f36)))
    (l36 : K.lookup f36 = some ⟨oc36, od36, .func (PySem.W.fnOf "law" "law" (defArgs s_law) (defBody s_law) (defScope s_law) .none kV36 dc36 pm36 an36 cd36 ct36), sl36⟩)
    (c36 : PySem.W.codeIn K cd36 "law" = true)
    (k36 : PySem.W.keepIn K (.ref f36) = true)
    (y0 : PySem.W.nsIn K mainGlobals "len" = some none)
    (y1 : PySem.W.nsIn K mainGlobals "abs" = some none)
    (y2 : PySem.W.nsIn K mainGlobals "int" = some none)
    (y3 : PySem.W.nsIn K mainGlobals "min" = some none)
    (y4 : PySem.W.nsIn K mainGlobals "max" = some none)
    (y5 : PySem.W.nsIn K mainGlobals "str" = some none)
    (y6 : PySem.W.nsIn K mainGlobals "tuple" = some none)
    (y7 : PySem.W.nsIn K mainGlobals "all" = some none)
    (y8 : PySem.W.nsIn K mainGlobals "any" = some none)
    (y9 : PySem.W.nsIn K mainGlobals "bool" = some none)
    (y10 : PySem.W.nsIn K mainGlobals "list" = some none)
    (y11 : PySem.W.nsIn K mainGlobals "range" = some none)
    (y12 : PySem.W.nsIn K mainGlobals "enumerate" = some none)
    (y13 : PySem.W.nsIn K mainGlobals "zip" = some none)
    (y14 : PySem.W.nsIn K mainGlobals "isinstance" = some none)
    (y15 : PySem.W.nsIn K mainGlobals "sum" = some none)
    (y16 : PySem.W.nsIn K mainGlobals "sorted" = some none)
    (y17 : PySem.W.nsIn K mainGlobals "set" = some none)
    (g_NONE : PySem.W.nsIn K mainGlobals "NONE" = some (some u_NONE))
    (g_NO : PySem.W.nsIn K mainGlobals "NO" = some (some u_NO))
    (g_YES : PySem.W.nsIn K mainGlobals "YES" = some (some u_YES))
    (g_UP : PySem.W.nsIn K mainGlobals "UP" = some (some u_UP))
    (g_DOWN : PySem.W.nsIn K mainGlobals "DOWN" = some (some u_DOWN))
    (g_TEXT : PySem.W.nsIn K mainGlobals "TEXT" = some (some u_TEXT))
    (g_ROW : PySem.W.nsIn K mainGlobals "ROW" = some (some u_ROW))
    (g_SIGNS : PySem.W.nsIn K mainGlobals "SIGNS" = some (some u_SIGNS))
    (g_HOUSE : PySem.W.nsIn K mainGlobals "HOUSE" = some (some u_HOUSE))
    (g_WORDS : PySem.W.nsIn K mainGlobals "WORDS" = some (some u_WORDS))
    (g_PRIME : PySem.W.nsIn K mainGlobals "PRIME" = some (some u_PRIME))
    (g_BASE : PySem.W.nsIn K mainGlobals "BASE" = some (some u_BASE))
    (r_NONE : RelV (.int 0) u_NONE)
    (r_NO : RelV (.int 1) u_NO)
    (r_YES : RelV (.int 2) u_YES)
    (r_UP : RelV (.int 3) u_UP)
    (r_DOWN : RelV (.int 4) u_DOWN)
    (r_TEXT : RelV (.int 5) u_TEXT)
    (r_ROW : RelV (.int 6) u_ROW)
    (r_SIGNS : RelV (.str (Str.ofString " !\"#$&'()*+,-./0123456789:;<=>?@ABCDEFGHIJKLMNOPQRSTUVWXYZ[\\]^_`abcdefghijklmnopqrstuvwxyz{|}~")) u_SIGNS)
    (r_HOUSE : RelV (.int (-1)) u_HOUSE)
    (r_WORDS : RelV (.ref o_WORDS) u_WORDS)
    (r_PRIME : RelV (.int 2305843009213693951) u_PRIME)
    (r_BASE : RelV (.int 1000003) u_BASE)
    (q_WORDS : K.lookup o_WORDS = some ⟨.type "tuple", h_WORDS, .seq t_WORDS n_WORDS, l_WORDS⟩)
    (v_WORDS : Vals [(.str (Str.ofString "done")), (.str (Str.ofString "void"))] t_WORDS.toList)
    (z_WORDS : t_WORDS.size ≤ sizeLine) :
    ∃ fd : FuncData, (∀ (s : Shared) (v : Value), BindsTo s fd ⟨[v], []⟩ [("script", v)]) ∧ ∀ base : Heap, K.In base → base.Ns mainGlobals mg → FnOk l.prog w K mg base CX0 26 fa fd ["script"] (spLaw 63 K) := by
  have e := hfa.symm.trans (PySem.W.mg_of X G a36)
  cases e
  have G0 := fun_mk (st := s_is_int) l0 c0 k0
  have F0 : FunE (⟨K, w⟩ : Kw) "is_int" s_is_int _ _ := FunE.of G0
  have b0 := G0.binds (ps := ["value"]) fun _ _ _ _ _ _ us hl => match us, hl with | [_], _ => rfl
  have m0 : More (⟨K, w⟩ : Kw) (PySem.W.fnOf "is_int" "is_int" (defArgs s_is_int) (defBody s_is_int) (defScope s_is_int) .none kV0 dc0 pm0 an0 cd0 ct0) (["value"] : List Str) d_is_int := More.none rfl rfl
  have D1 := fund_mk (K := (⟨K, w⟩ : Kw)) (st := s_is_number) l1 c1 k1 t1 v1 (by simp)
  have F1 : FunE (⟨K, w⟩ : Kw) "is_number" s_is_number _ _ := ⟨_, D1⟩
  have b1 := binds_all (ps := (["value", "least", "most"] : List Str)) D1 (by simp) fun _ _ _ _ _ _ _ us its hu hi => match us, its, hu, hi with | [_, _, _], [_, _], _, _ => ⟨_, rfl, rfl⟩
  have m1 : More (⟨K, w⟩ : Kw) (PySem.W.fnOf "is_number" "is_number" (defArgs s_is_number) (defBody s_is_number) (defScope s_is_number) (.ref T1) kV1 dc1 pm1 an1 cd1 ct1) (["value", "least", "most"] : List Str) d_is_number := ⟨fun j ks h => by
    simp [d_is_number] at h
    , fun j ds h => by
    simp only [d_is_number, List.mem_cons, List.mem_nil_iff, or_false, Prod.mk.injEq] at h
    rcases h with ⟨rfl, rfl⟩
    · obtain ⟨dus, r, bb⟩ := D1.binds1 (ps := (["value", "least", "most"] : List Str)) 1 0 (by simp) (by decide) fun _ _ _ _ _ _ _ us its hu hi => match us, its, hu, hi with | [_], [_, _], _, _ => ⟨_, rfl, rfl⟩
      exact ⟨_, dus, bb, r, (KDs.cons (KD.int 0) (KDs.cons KD.non KDs.nil))⟩
    ⟩
  have D2 := fund_mk (K := (⟨K, w⟩ : Kw)) (st := s_is_tuple) l2 c2 k2 t2 v2 (by simp)
  have F2 : FunE (⟨K, w⟩ : Kw) "is_tuple" s_is_tuple _ _ := ⟨_, D2⟩
  have b2 := binds_all (ps := (["value", "many"] : List Str)) D2 (by simp) fun _ _ _ _ _ _ _ us its hu hi => match us, its, hu, hi with | [_, _], [_], _, _ => ⟨_, rfl, rfl⟩
  have m2 : More (⟨K, w⟩ : Kw) (PySem.W.fnOf "is_tuple" "is_tuple" (defArgs s_is_tuple) (defBody s_is_tuple) (defScope s_is_tuple) (.ref T2) kV2 dc2 pm2 an2 cd2 ct2) (["value", "many"] : List Str) d_is_tuple := ⟨fun j ks h => by
    simp [d_is_tuple] at h
    , fun j ds h => by
    simp only [d_is_tuple, List.mem_cons, List.mem_nil_iff, or_false, Prod.mk.injEq] at h
    rcases h with ⟨rfl, rfl⟩
    · obtain ⟨dus, r, bb⟩ := D2.binds1 (ps := (["value", "many"] : List Str)) 1 0 (by simp) (by decide) fun _ _ _ _ _ _ _ us its hu hi => match us, its, hu, hi with | [_], [_], _, _ => ⟨_, rfl, rfl⟩
      exact ⟨_, dus, bb, r, (KDs.cons KD.non KDs.nil)⟩
    ⟩
  have D3 := fund_mk (K := (⟨K, w⟩ : Kw)) (st := s_is_numbers) l3 c3 k3 t3 v3 (by simp)
  have F3 : FunE (⟨K, w⟩ : Kw) "is_numbers" s_is_numbers _ _ := ⟨_, D3⟩
  have b3 := binds_all (ps := (["value", "many", "least", "most"] : List Str)) D3 (by simp) fun _ _ _ _ _ _ _ us its hu hi => match us, its, hu, hi with | [_, _, _, _], [_, _], _, _ => ⟨_, rfl, rfl⟩
  have m3 : More (⟨K, w⟩ : Kw) (PySem.W.fnOf "is_numbers" "is_numbers" (defArgs s_is_numbers) (defBody s_is_numbers) (defScope s_is_numbers) (.ref T3) kV3 dc3 pm3 an3 cd3 ct3) (["value", "many", "least", "most"] : List Str) d_is_numbers := ⟨fun j ks h => by
    simp [d_is_numbers] at h
    , fun j ds h => by
    simp only [d_is_numbers, List.mem_cons, List.mem_nil_iff, or_false, Prod.mk.injEq] at h
    rcases h with ⟨rfl, rfl⟩
    · obtain ⟨dus, r, bb⟩ := D3.binds1 (ps := (["value", "many", "least", "most"] : List Str)) 2 0 (by simp) (by decide) fun _ _ _ _ _ _ _ us its hu hi => match us, its, hu, hi with | [_, _], [_, _], _, _ => ⟨_, rfl, rfl⟩
      exact ⟨_, dus, bb, r, (KDs.cons (KD.int 0) (KDs.cons KD.non KDs.nil))⟩
    ⟩
  have G4 := fun_mk (st := s_counted) l4 c4 k4
  have F4 : FunE (⟨K, w⟩ : Kw) "counted" s_counted _ _ := FunE.of G4
  have b4 := G4.binds (ps := ["number"]) fun _ _ _ _ _ _ us hl => match us, hl with | [_], _ => rfl
  have m4 : More (⟨K, w⟩ : Kw) (PySem.W.fnOf "counted" "counted" (defArgs s_counted) (defBody s_counted) (defScope s_counted) .none kV4 dc4 pm4 an4 cd4 ct4) (["number"] : List Str) d_counted := More.none rfl rfl
  have G5 := fun_mk (st := s_packed) l5 c5 k5
  have F5 : FunE (⟨K, w⟩ : Kw) "packed" s_packed _ _ := FunE.of G5
  have b5 := G5.binds (ps := ["value"]) fun _ _ _ _ _ _ us hl => match us, hl with | [_], _ => rfl
  have m5 : More (⟨K, w⟩ : Kw) (PySem.W.fnOf "packed" "packed" (defArgs s_packed) (defBody s_packed) (defScope s_packed) .none kV5 dc5 pm5 an5 cd5 ct5) (["value"] : List Str) d_packed := More.none rfl rfl
  have G6 := fun_mk (st := s_is_choice) l6 c6 k6
  have F6 : FunE (⟨K, w⟩ : Kw) "is_choice" s_is_choice _ _ := FunE.of G6
  have b6 := G6.binds (ps := ["value"]) fun _ _ _ _ _ _ us hl => match us, hl with | [_], _ => rfl
  have m6 : More (⟨K, w⟩ : Kw) (PySem.W.fnOf "is_choice" "is_choice" (defArgs s_is_choice) (defBody s_is_choice) (defScope s_is_choice) .none kV6 dc6 pm6 an6 cd6 ct6) (["value"] : List Str) d_is_choice := More.none rfl rfl
  have G7 := fun_mk (st := s_is_seen) l7 c7 k7
  have F7 : FunE (⟨K, w⟩ : Kw) "is_seen" s_is_seen _ _ := FunE.of G7
  have b7 := G7.binds (ps := ["value"]) fun _ _ _ _ _ _ us hl => match us, hl with | [_], _ => rfl
  have m7 : More (⟨K, w⟩ : Kw) (PySem.W.fnOf "is_seen" "is_seen" (defArgs s_is_seen) (defBody s_is_seen) (defScope s_is_seen) .none kV7 dc7 pm7 an7 cd7 ct7) (["value"] : List Str) d_is_seen := More.none rfl rfl
  have G8 := fun_mk (st := s_is_body) l8 c8 k8
  have F8 : FunE (⟨K, w⟩ : Kw) "is_body" s_is_body _ _ := FunE.of G8
  have b8 := G8.binds (ps := ["many", "value"]) fun _ _ _ _ _ _ us hl => match us, hl with | [_, _], _ => rfl
  have m8 : More (⟨K, w⟩ : Kw) (PySem.W.fnOf "is_body" "is_body" (defArgs s_is_body) (defBody s_is_body) (defScope s_is_body) .none kV8 dc8 pm8 an8 cd8 ct8) (["many", "value"] : List Str) d_is_body := More.none rfl rfl
  have G9 := fun_mk (st := s_is_course_body) l9 c9 k9
  have F9 : FunE (⟨K, w⟩ : Kw) "is_course_body" s_is_course_body _ _ := FunE.of G9
  have b9 := G9.binds (ps := ["many", "value"]) fun _ _ _ _ _ _ us hl => match us, hl with | [_, _], _ => rfl
  have m9 : More (⟨K, w⟩ : Kw) (PySem.W.fnOf "is_course_body" "is_course_body" (defArgs s_is_course_body) (defBody s_is_course_body) (defScope s_is_course_body) .none kV9 dc9 pm9 an9 cd9 ct9) (["many", "value"] : List Str) d_is_course_body := More.none rfl rfl
  have G10 := fun_mk (st := s_asked_by) l10 c10 k10
  have F10 : FunE (⟨K, w⟩ : Kw) "asked_by" s_asked_by _ _ := FunE.of G10
  have b10 := G10.binds (ps := ["body"]) fun _ _ _ _ _ _ us hl => match us, hl with | [_], _ => rfl
  have m10 : More (⟨K, w⟩ : Kw) (PySem.W.fnOf "asked_by" "asked_by" (defArgs s_asked_by) (defBody s_asked_by) (defScope s_asked_by) .none kV10 dc10 pm10 an10 cd10 ct10) (["body"] : List Str) d_asked_by := More.none rfl rfl
  have G11 := fun_mk (st := s_is_changing_body) l11 c11 k11
  have F11 : FunE (⟨K, w⟩ : Kw) "is_changing_body" s_is_changing_body _ _ := FunE.of G11
  have b11 := G11.binds (ps := ["body"]) fun _ _ _ _ _ _ us hl => match us, hl with | [_], _ => rfl
  have m11 : More (⟨K, w⟩ : Kw) (PySem.W.fnOf "is_changing_body" "is_changing_body" (defArgs s_is_changing_body) (defBody s_is_changing_body) (defScope s_is_changing_body) .none kV11 dc11 pm11 an11 cd11 ct11) (["body"] : List Str) d_is_changing_body := More.none rfl rfl
  have G12 := fun_mk (st := s_is_mark) l12 c12 k12
  have F12 : FunE (⟨K, w⟩ : Kw) "is_mark" s_is_mark _ _ := FunE.of G12
  have b12 := G12.binds (ps := ["value"]) fun _ _ _ _ _ _ us hl => match us, hl with | [_], _ => rfl
  have m12 : More (⟨K, w⟩ : Kw) (PySem.W.fnOf "is_mark" "is_mark" (defArgs s_is_mark) (defBody s_is_mark) (defScope s_is_mark) .none kV12 dc12 pm12 an12 cd12 ct12) (["value"] : List Str) d_is_mark := More.none rfl rfl
  have G13 := fun_mk (st := s_is_desks_letter) l13 c13 k13
  have F13 : FunE (⟨K, w⟩ : Kw) "is_desks_letter" s_is_desks_letter _ _ := FunE.of G13
  have b13 := G13.binds (ps := ["many", "value"]) fun _ _ _ _ _ _ us hl => match us, hl with | [_, _], _ => rfl
  have m13 : More (⟨K, w⟩ : Kw) (PySem.W.fnOf "is_desks_letter" "is_desks_letter" (defArgs s_is_desks_letter) (defBody s_is_desks_letter) (defScope s_is_desks_letter) .none kV13 dc13 pm13 an13 cd13 ct13) (["many", "value"] : List Str) d_is_desks_letter := More.none rfl rfl
  have G14 := fun_mk (st := s_is_agreeing) l14 c14 k14
  have F14 : FunE (⟨K, w⟩ : Kw) "is_agreeing" s_is_agreeing _ _ := FunE.of G14
  have b14 := G14.binds (ps := ["many", "value"]) fun _ _ _ _ _ _ us hl => match us, hl with | [_, _], _ => rfl
  have m14 : More (⟨K, w⟩ : Kw) (PySem.W.fnOf "is_agreeing" "is_agreeing" (defArgs s_is_agreeing) (defBody s_is_agreeing) (defScope s_is_agreeing) .none kV14 dc14 pm14 an14 cd14 ct14) (["many", "value"] : List Str) d_is_agreeing := More.none rfl rfl
  have G15 := fun_mk (st := s_is_letter) l15 c15 k15
  have F15 : FunE (⟨K, w⟩ : Kw) "is_letter" s_is_letter _ _ := FunE.of G15
  have b15 := G15.binds (ps := ["many", "value"]) fun _ _ _ _ _ _ us hl => match us, hl with | [_, _], _ => rfl
  have m15 : More (⟨K, w⟩ : Kw) (PySem.W.fnOf "is_letter" "is_letter" (defArgs s_is_letter) (defBody s_is_letter) (defScope s_is_letter) .none kV15 dc15 pm15 an15 cd15 ct15) (["many", "value"] : List Str) d_is_letter := ⟨fun j ks h => by
    simp only [d_is_letter, List.mem_cons, List.mem_nil_iff, or_false, Prod.mk.injEq] at h
    rcases h with ⟨rfl, rfl⟩
    · exact kb_of (fun us ws hu hw => match us, ws, hu, hw with | [_], [_], _, _ => rfl) rfl (by decide)
    , fun j ds h => by
    simp [d_is_letter] at h
    ⟩
  have G16 := fun_mk (st := s_whose_letter) l16 c16 k16
  have F16 : FunE (⟨K, w⟩ : Kw) "whose_letter" s_whose_letter _ _ := FunE.of G16
  have b16 := G16.binds (ps := ["letter"]) fun _ _ _ _ _ _ us hl => match us, hl with | [_], _ => rfl
  have m16 : More (⟨K, w⟩ : Kw) (PySem.W.fnOf "whose_letter" "whose_letter" (defArgs s_whose_letter) (defBody s_whose_letter) (defScope s_whose_letter) .none kV16 dc16 pm16 an16 cd16 ct16) (["letter"] : List Str) d_whose_letter := More.none rfl rfl
  have G17 := fun_mk (st := s_hidden_choice) l17 c17 k17
  have F17 : FunE (⟨K, w⟩ : Kw) "hidden_choice" s_hidden_choice _ _ := FunE.of G17
  have b17 := G17.binds (ps := ["choice"]) fun _ _ _ _ _ _ us hl => match us, hl with | [_], _ => rfl
  have m17 : More (⟨K, w⟩ : Kw) (PySem.W.fnOf "hidden_choice" "hidden_choice" (defArgs s_hidden_choice) (defBody s_hidden_choice) (defScope s_hidden_choice) .none kV17 dc17 pm17 an17 cd17 ct17) (["choice"] : List Str) d_hidden_choice := More.none rfl rfl
  have G18 := fun_mk (st := s_chained) l18 c18 k18
  have F18 : FunE (⟨K, w⟩ : Kw) "chained" s_chained _ _ := FunE.of G18
  have b18 := G18.binds (ps := ["ahead", "body"]) fun _ _ _ _ _ _ us hl => match us, hl with | [_, _], _ => rfl
  have m18 : More (⟨K, w⟩ : Kw) (PySem.W.fnOf "chained" "chained" (defArgs s_chained) (defBody s_chained) (defScope s_chained) .none kV18 dc18 pm18 an18 cd18 ct18) (["ahead", "body"] : List Str) d_chained := More.none rfl rfl
  have G19 := fun_mk (st := s_sum_of) l19 c19 k19
  have F19 : FunE (⟨K, w⟩ : Kw) "sum_of" s_sum_of _ _ := FunE.of G19
  have b19 := G19.binds (ps := ["bodies"]) fun _ _ _ _ _ _ us hl => match us, hl with | [_], _ => rfl
  have m19 : More (⟨K, w⟩ : Kw) (PySem.W.fnOf "sum_of" "sum_of" (defArgs s_sum_of) (defBody s_sum_of) (defScope s_sum_of) .none kV19 dc19 pm19 an19 cd19 ct19) (["bodies"] : List Str) d_sum_of := More.none rfl rfl
  have G20 := fun_mk (st := s_mark_of) l20 c20 k20
  have F20 : FunE (⟨K, w⟩ : Kw) "mark_of" s_mark_of _ _ := FunE.of G20
  have b20 := G20.binds (ps := ["bodies"]) fun _ _ _ _ _ _ us hl => match us, hl with | [_], _ => rfl
  have m20 : More (⟨K, w⟩ : Kw) (PySem.W.fnOf "mark_of" "mark_of" (defArgs s_mark_of) (defBody s_mark_of) (defScope s_mark_of) .none kV20 dc20 pm20 an20 cd20 ct20) (["bodies"] : List Str) d_mark_of := More.none rfl rfl
  have G21 := fun_mk (st := s__law_box) l21 c21 k21
  have F21 : FunE (⟨K, w⟩ : Kw) "_law_box" s__law_box _ _ := FunE.of G21
  have b21 := G21.binds (ps := ["script", "k"]) fun _ _ _ _ _ _ us hl => match us, hl with | [_, _], _ => rfl
  have m21 : More (⟨K, w⟩ : Kw) (PySem.W.fnOf "_law_box" "_law_box" (defArgs s__law_box) (defBody s__law_box) (defScope s__law_box) .none kV21 dc21 pm21 an21 cd21 ct21) (["script", "k"] : List Str) d__law_box := More.none rfl rfl
  have G22 := fun_mk (st := s__law_take) l22 c22 k22
  have F22 : FunE (⟨K, w⟩ : Kw) "_law_take" s__law_take _ _ := FunE.of G22
  have b22 := G22.binds (ps := ["box", "many"]) fun _ _ _ _ _ _ us hl => match us, hl with | [_, _], _ => rfl
  have m22 : More (⟨K, w⟩ : Kw) (PySem.W.fnOf "_law_take" "_law_take" (defArgs s__law_take) (defBody s__law_take) (defScope s__law_take) .none kV22 dc22 pm22 an22 cd22 ct22) (["box", "many"] : List Str) d__law_take := More.none rfl rfl
  have G23 := fun_mk (st := s__law_pick) l23 c23 k23
  have F23 : FunE (⟨K, w⟩ : Kw) "_law_pick" s__law_pick _ _ := FunE.of G23
  have b23 := G23.binds (ps := ["box", "some"]) fun _ _ _ _ _ _ us hl => match us, hl with | [_, _], _ => rfl
  have m23 : More (⟨K, w⟩ : Kw) (PySem.W.fnOf "_law_pick" "_law_pick" (defArgs s__law_pick) (defBody s__law_pick) (defScope s__law_pick) .none kV23 dc23 pm23 an23 cd23 ct23) (["box", "some"] : List Str) d__law_pick := More.none rfl rfl
  have G24 := fun_mk (st := s__law_same) l24 c24 k24
  have F24 : FunE (⟨K, w⟩ : Kw) "_law_same" s__law_same _ _ := FunE.of G24
  have b24 := G24.binds (ps := ["told", "due"]) fun _ _ _ _ _ _ us hl => match us, hl with | [_, _], _ => rfl
  have m24 : More (⟨K, w⟩ : Kw) (PySem.W.fnOf "_law_same" "_law_same" (defArgs s__law_same) (defBody s__law_same) (defScope s__law_same) .none kV24 dc24 pm24 an24 cd24 ct24) (["told", "due"] : List Str) d__law_same := More.none rfl rfl
  have G25 := fun_mk (st := s__law_chain) l25 c25 k25
  have F25 : FunE (⟨K, w⟩ : Kw) "_law_chain" s__law_chain _ _ := FunE.of G25
  have b25 := G25.binds (ps := ["bodies", "octets_of"]) fun _ _ _ _ _ _ us hl => match us, hl with | [_, _], _ => rfl
  have m25 : More (⟨K, w⟩ : Kw) (PySem.W.fnOf "_law_chain" "_law_chain" (defArgs s__law_chain) (defBody s__law_chain) (defScope s__law_chain) .none kV25 dc25 pm25 an25 cd25 ct25) (["bodies", "octets_of"] : List Str) d__law_chain := More.none rfl rfl
  have G26 := fun_mk (st := s__law_is_changing) l26 c26 k26
  have F26 : FunE (⟨K, w⟩ : Kw) "_law_is_changing" s__law_is_changing _ _ := FunE.of G26
  have b26 := G26.binds (ps := ["body"]) fun _ _ _ _ _ _ us hl => match us, hl with | [_], _ => rfl
  have m26 : More (⟨K, w⟩ : Kw) (PySem.W.fnOf "_law_is_changing" "_law_is_changing" (defArgs s__law_is_changing) (defBody s__law_is_changing) (defScope s__law_is_changing) .none kV26 dc26 pm26 an26 cd26 ct26) (["body"] : List Str) d__law_is_changing := More.none rfl rfl
  have G27 := fun_mk (st := s__law_is_number) l27 c27 k27
  have F27 : FunE (⟨K, w⟩ : Kw) "_law_is_number" s__law_is_number _ _ := FunE.of G27
  have b27 := G27.binds (ps := ["value", "least", "most"]) fun _ _ _ _ _ _ us hl => match us, hl with | [_, _, _], _ => rfl
  have m27 : More (⟨K, w⟩ : Kw) (PySem.W.fnOf "_law_is_number" "_law_is_number" (defArgs s__law_is_number) (defBody s__law_is_number) (defScope s__law_is_number) .none kV27 dc27 pm27 an27 cd27 ct27) (["value", "least", "most"] : List Str) d__law_is_number := More.none rfl rfl
  have G28 := fun_mk (st := s__law_are_numbers) l28 c28 k28
  have F28 : FunE (⟨K, w⟩ : Kw) "_law_are_numbers" s__law_are_numbers _ _ := FunE.of G28
  have b28 := G28.binds (ps := ["value", "many"]) fun _ _ _ _ _ _ us hl => match us, hl with | [_, _], _ => rfl
  have m28 : More (⟨K, w⟩ : Kw) (PySem.W.fnOf "_law_are_numbers" "_law_are_numbers" (defArgs s__law_are_numbers) (defBody s__law_are_numbers) (defScope s__law_are_numbers) .none kV28 dc28 pm28 an28 cd28 ct28) (["value", "many"] : List Str) d__law_are_numbers := More.none rfl rfl
  have G29 := fun_mk (st := s__law_starts) l29 c29 k29
  have F29 : FunE (⟨K, w⟩ : Kw) "_law_starts" s__law_starts _ _ := FunE.of G29
  have b29 := G29.binds (ps := ["value", "many", "word"]) fun _ _ _ _ _ _ us hl => match us, hl with | [_, _, _], _ => rfl
  have m29 : More (⟨K, w⟩ : Kw) (PySem.W.fnOf "_law_starts" "_law_starts" (defArgs s__law_starts) (defBody s__law_starts) (defScope s__law_starts) .none kV29 dc29 pm29 an29 cd29 ct29) (["value", "many", "word"] : List Str) d__law_starts := More.none rfl rfl
  have G30 := fun_mk (st := s__law_is_choice) l30 c30 k30
  have F30 : FunE (⟨K, w⟩ : Kw) "_law_is_choice" s__law_is_choice _ _ := FunE.of G30
  have b30 := G30.binds (ps := ["value"]) fun _ _ _ _ _ _ us hl => match us, hl with | [_], _ => rfl
  have m30 : More (⟨K, w⟩ : Kw) (PySem.W.fnOf "_law_is_choice" "_law_is_choice" (defArgs s__law_is_choice) (defBody s__law_is_choice) (defScope s__law_is_choice) .none kV30 dc30 pm30 an30 cd30 ct30) (["value"] : List Str) d__law_is_choice := More.none rfl rfl
  have G31 := fun_mk (st := s__law_is_body) l31 c31 k31
  have F31 : FunE (⟨K, w⟩ : Kw) "_law_is_body" s__law_is_body _ _ := FunE.of G31
  have b31 := G31.binds (ps := ["many", "value"]) fun _ _ _ _ _ _ us hl => match us, hl with | [_, _], _ => rfl
  have m31 : More (⟨K, w⟩ : Kw) (PySem.W.fnOf "_law_is_body" "_law_is_body" (defArgs s__law_is_body) (defBody s__law_is_body) (defScope s__law_is_body) .none kV31 dc31 pm31 an31 cd31 ct31) (["many", "value"] : List Str) d__law_is_body := More.none rfl rfl
  have G32 := fun_mk (st := s__law_is_letter) l32 c32 k32
  have F32 : FunE (⟨K, w⟩ : Kw) "_law_is_letter" s__law_is_letter _ _ := FunE.of G32
  have b32 := G32.binds (ps := ["many", "value"]) fun _ _ _ _ _ _ us hl => match us, hl with | [_, _], _ => rfl
  have m32 : More (⟨K, w⟩ : Kw) (PySem.W.fnOf "_law_is_letter" "_law_is_letter" (defArgs s__law_is_letter) (defBody s__law_is_letter) (defScope s__law_is_letter) .none kV32 dc32 pm32 an32 cd32 ct32) (["many", "value"] : List Str) d__law_is_letter := More.none rfl rfl
  have G33 := fun_mk (st := s__law_some_body) l33 c33 k33
  have F33 : FunE (⟨K, w⟩ : Kw) "_law_some_body" s__law_some_body _ _ := FunE.of G33
  have b33 := G33.binds (ps := ["box", "many"]) fun _ _ _ _ _ _ us hl => match us, hl with | [_, _], _ => rfl
  have m33 : More (⟨K, w⟩ : Kw) (PySem.W.fnOf "_law_some_body" "_law_some_body" (defArgs s__law_some_body) (defBody s__law_some_body) (defScope s__law_some_body) .none kV33 dc33 pm33 an33 cd33 ct33) (["box", "many"] : List Str) d__law_some_body := More.none rfl rfl
  have G34 := fun_mk (st := s__law_some_letter) l34 c34 k34
  have F34 : FunE (⟨K, w⟩ : Kw) "_law_some_letter" s__law_some_letter _ _ := FunE.of G34
  have b34 := G34.binds (ps := ["box", "many"]) fun _ _ _ _ _ _ us hl => match us, hl with | [_, _], _ => rfl
  have m34 : More (⟨K, w⟩ : Kw) (PySem.W.fnOf "_law_some_letter" "_law_some_letter" (defArgs s__law_some_letter) (defBody s__law_some_letter) (defScope s__law_some_letter) .none kV34 dc34 pm34 an34 cd34 ct34) (["box", "many"] : List Str) d__law_some_letter := More.none rfl rfl
  have G35 := fun_mk (st := s__law_turned) l35 c35 k35
  have F35 : FunE (⟨K, w⟩ : Kw) "_law_turned" s__law_turned _ _ := FunE.of G35
  have b35 := G35.binds (ps := ["box", "value"]) fun _ _ _ _ _ _ us hl => match us, hl with | [_, _], _ => rfl
  have m35 : More (⟨K, w⟩ : Kw) (PySem.W.fnOf "_law_turned" "_law_turned" (defArgs s__law_turned) (defBody s__law_turned) (defScope s__law_turned) .none kV35 dc35 pm35 an35 cd35 ct35) (["box", "value"] : List Str) d__law_turned := More.none rfl rfl
  have G36 := fun_mk (st := s_law) l36 c36 k36
  have F36 : FunE (⟨K, w⟩ : Kw) "law" s_law _ _ := FunE.of G36
  have b36 := G36.binds (ps := ["script"]) fun _ _ _ _ _ _ us hl => match us, hl with | [_], _ => rfl
  have m36 : More (⟨K, w⟩ : Kw) (PySem.W.fnOf "law" "law" (defArgs s_law) (defBody s_law) (defScope s_law) .none kV36 dc36 pm36 an36 cd36 ct36) (["script"] : List Str) d_law := More.none rfl rfl
  have T : TabOk l.prog (⟨K, w⟩ : Kw) mg L cst := ⟨fns_cons (.mk' rfl F0 sc_is_int ck_is_int (PySem.W.mg_of X G a0) b0 m0) (fns_cons (.mk' rfl F1 sc_is_number ck_is_number (PySem.W.mg_of X G a1) b1 m1) (fns_cons (.mk' rfl F2 sc_is_tuple ck_is_tuple (PySem.W.mg_of X G a2) b2 m2) (fns_cons (.mk' rfl F3 sc_is_numbers ck_is_numbers (PySem.W.mg_of X G a3) b3 m3) (fns_cons (.mk' rfl F4 sc_counted ck_counted (PySem.W.mg_of X G a4) b4 m4) (fns_cons (.mk' rfl F5 sc_packed ck_packed (PySem.W.mg_of X G a5) b5 m5) (fns_cons (.mk' rfl F6 sc_is_choice ck_is_choice (PySem.W.mg_of X G a6) b6 m6) (fns_cons (.mk' rfl F7 sc_is_seen ck_is_seen (PySem.W.mg_of X G a7) b7 m7) (fns_cons (.mk' rfl F8 sc_is_body ck_is_body (PySem.W.mg_of X G a8) b8 m8) (fns_cons (.mk' rfl F9 sc_is_course_body ck_is_course_body (PySem.W.mg_of X G a9) b9 m9) (fns_cons (.mk' rfl F10 sc_asked_by ck_asked_by (PySem.W.mg_of X G a10) b10 m10) (fns_cons (.mk' rfl F11 sc_is_changing_body ck_is_changing_body (PySem.W.mg_of X G a11) b11 m11) (fns_cons (.mk' rfl F12 sc_is_mark ck_is_mark (PySem.W.mg_of X G a12) b12 m12) (fns_cons (.mk' rfl F13 sc_is_desks_letter ck_is_desks_letter (PySem.W.mg_of X G a13) b13 m13) (fns_cons (.mk' rfl F14 sc_is_agreeing ck_is_agreeing (PySem.W.mg_of X G a14) b14 m14) (fns_cons (.mk' rfl F15 sc_is_letter ck_is_letter (PySem.W.mg_of X G a15) b15 m15) (fns_cons (.mk' rfl F16 sc_whose_letter ck_whose_letter (PySem.W.mg_of X G a16) b16 m16) (fns_cons (.mk' rfl F17 sc_hidden_choice ck_hidden_choice (PySem.W.mg_of X G a17) b17 m17) (fns_cons (.mk' rfl F18 sc_chained ck_chained (PySem.W.mg_of X G a18) b18 m18) (fns_cons (.mk' rfl F19 sc_sum_of ck_sum_of (PySem.W.mg_of X G a19) b19 m19) (fns_cons (.mk' rfl F20 sc_mark_of ck_mark_of (PySem.W.mg_of X G a20) b20 m20) (fns_cons (.mk' rfl F21 sc__law_box ck__law_box (PySem.W.mg_of X G a21) b21 m21) (fns_cons (.mk' rfl F22 sc__law_take ck__law_take (PySem.W.mg_of X G a22) b22 m22) (fns_cons (.mk' rfl F23 sc__law_pick ck__law_pick (PySem.W.mg_of X G a23) b23 m23) (fns_cons (.mk' rfl F24 sc__law_same ck__law_same (PySem.W.mg_of X G a24) b24 m24) (fns_cons (.mk' rfl F25 sc__law_chain ck__law_chain (PySem.W.mg_of X G a25) b25 m25) (fns_cons (.mk' rfl F26 sc__law_is_changing ck__law_is_changing (PySem.W.mg_of X G a26) b26 m26) (fns_cons (.mk' rfl F27 sc__law_is_number ck__law_is_number (PySem.W.mg_of X G a27) b27 m27) (fns_cons (.mk' rfl F28 sc__law_are_numbers ck__law_are_numbers (PySem.W.mg_of X G a28) b28 m28) (fns_cons (.mk' rfl F29 sc__law_starts ck__law_starts (PySem.W.mg_of X G a29) b29 m29) (fns_cons (.mk' rfl F30 sc__law_is_choice ck__law_is_choice (PySem.W.mg_of X G a30) b30 m30) (fns_cons (.mk' rfl F31 sc__law_is_body ck__law_is_body (PySem.W.mg_of X G a31) b31 m31) (fns_cons (.mk' rfl F32 sc__law_is_letter ck__law_is_letter (PySem.W.mg_of X G a32) b32 m32) (fns_cons (.mk' rfl F33 sc__law_some_body ck__law_some_body (PySem.W.mg_of X G a33) b33 m33) (fns_cons (.mk' rfl F34 sc__law_some_letter ck__law_some_letter (PySem.W.mg_of X G a34) b34 m34) (fns_cons (.mk' rfl F35 sc__law_turned ck__law_turned (PySem.W.mg_of X G a35) b35 m35) (fns_cons (.mk' rfl F36 sc_law ck_law (PySem.W.mg_of X G a36) b36 m36) (fns_nil))))))))))))))))))))))))))))))))))))),
    cst_cons (.mk' (PySem.W.mg_of X G g_NONE) r_NONE (KD.int 0)) (cst_cons (.mk' (PySem.W.mg_of X G g_NO) r_NO (KD.int 1)) (cst_cons (.mk' (PySem.W.mg_of X G g_YES) r_YES (KD.int 2)) (cst_cons (.mk' (PySem.W.mg_of X G g_UP) r_UP (KD.int 3)) (cst_cons (.mk' (PySem.W.mg_of X G g_DOWN) r_DOWN (KD.int 4)) (cst_cons (.mk' (PySem.W.mg_of X G g_TEXT) r_TEXT (KD.int 5)) (cst_cons (.mk' (PySem.W.mg_of X G g_ROW) r_ROW (KD.int 6)) (cst_cons (.mk' (PySem.W.mg_of X G g_SIGNS) r_SIGNS (KD.str " !\"#$&'()*+,-./0123456789:;<=>?@ABCDEFGHIJKLMNOPQRSTUVWXYZ[\\]^_`abcdefghijklmnopqrstuvwxyz{|}~")) (cst_cons (.mk' (PySem.W.mg_of X G g_HOUSE) r_HOUSE (KD.int (-1))) (cst_cons (.mk' (PySem.W.mg_of X G g_WORDS) r_WORDS (KD.tup q_WORDS z_WORDS v_WORDS (KDs.cons (KD.str "done") (KDs.cons (KD.str "void") KDs.nil)))) (cst_cons (.mk' (PySem.W.mg_of X G g_PRIME) r_PRIME (KD.int 2305843009213693951)) (cst_cons (.mk' (PySem.W.mg_of X G g_BASE) r_BASE (KD.int 1000003)) (cst_cons (.mk' (PySem.W.mg_of X G a5) (show RelV (V.ref f5) (Value.ref f5) from rfl) (KD.fn a5)) (cst_nil))))))))))))),
    fun x hx => by
      simp only [bltNames, List.mem_cons, List.mem_nil_iff, or_false] at hx
      rcases hx with rfl | rfl | rfl | rfl | rfl | rfl | rfl | rfl | rfl | rfl | rfl | rfl | rfl | rfl | rfl | rfl | rfl | rfl
      · exact PySem.W.mg_none_of X G y0
      · exact PySem.W.mg_none_of X G y1
      · exact PySem.W.mg_none_of X G y2
      · exact PySem.W.mg_none_of X G y3
      · exact PySem.W.mg_none_of X G y4
      · exact PySem.W.mg_none_of X G y5
      · exact PySem.W.mg_none_of X G y6
      · exact PySem.W.mg_none_of X G y7
      · exact PySem.W.mg_none_of X G y8
      · exact PySem.W.mg_none_of X G y9
      · exact PySem.W.mg_none_of X G y10
      · exact PySem.W.mg_none_of X G y11
      · exact PySem.W.mg_none_of X G y12
      · exact PySem.W.mg_none_of X G y13
      · exact PySem.W.mg_none_of X G y14
      · exact PySem.W.mg_none_of X G y15
      · exact PySem.W.mg_none_of X G y16
      · exact PySem.W.mg_none_of X G y17
    , fun h => absurd h (by decide), by decide⟩
  refine ⟨PySem.W.fnOf "law" "law" (defArgs s_law) (defBody s_law) (defScope s_law) .none kV36 dc36 pm36 an36 cd36 ct36, fun s v => .of_eq rfl, fun base _ _ => ?_⟩
  have Fl := law_fn (P := l.prog) (base := base) (fuel := 700) (k := 25) (n := 63) T (i := 36) (d := d_law) rfl rfl F36 sc_law rfl rfl ck_law fun ns hn => law_true 26 700 (by decide) (by decide) ns
  exact Fl
end PyD.K55
open PySem PySem.W PyProof.Rows
set_option maxHeartbeats 0 in
theorem PySem.Challenge.cw_evenifothers_k55_letters_and_sums_holds : PySem.Challenge.rw_evenifothers_k55_letters_and_sums.Holds := by
  w_on; o_law; k_head; (case hw => w_witness2)
  k_fill
  refine L2.walk_of (l := PySem.Challenge.rw_evenifothers_k55_letters_and_sums) (n := 63) (k := 26) (x := "script") (CX := fun _ => L2.CX0) (sp := fun w => PyD.spLaw 63 _) rfl (by decide) rfl ⟨rfl, by decide, by decide⟩ (fun w h Y => PySem.W.kIn_of Y) ?F (fun _ _ a ns hl _ hS => ⟨a, ns, rfl, hS, hl, fun _ _ e => e⟩) (fun _ _ _ _ _ h => h)
  case F =>
    intro w mg fa h KX G hmg
    refine' PyD.K55.all_mk KX G hmg ?a0 ?l0 ?c0 ?k0 ?a1 ?l1 ?t1 ?v1 ?c1 ?k1 ?a2 ?l2 ?t2 ?v2 ?c2 ?k2 ?a3 ?l3 ?t3 ?v3 ?c3 ?k3 ?a4 ?l4 ?c4 ?k4 ?a5 ?l5 ?c5 ?k5 ?a6 ?l6 ?c6 ?k6 ?a7 ?l7 ?c7 ?k7 ?a8 ?l8 ?c8 ?k8 ?a9 ?l9 ?c9 ?k9 ?a10 ?l10 ?c10 ?k10 ?a11 ?l11 ?c11 ?k11 ?a12 ?l12 ?c12 ?k12 ?a13 ?l13 ?c13 ?k13 ?a14 ?l14 ?c14 ?k14 ?a15 ?l15 ?c15 ?k15 ?a16 ?l16 ?c16 ?k16 ?a17 ?l17 ?c17 ?k17 ?a18 ?l18 ?c18 ?k18 ?a19 ?l19 ?c19 ?k19 ?a20 ?l20 ?c20 ?k20 ?a21 ?l21 ?c21 ?k21 ?a22 ?l22 ?c22 ?k22 ?a23 ?l23 ?c23 ?k23 ?a24 ?l24 ?c24 ?k24 ?a25 ?l25 ?c25 ?k25 ?a26 ?l26 ?c26 ?k26 ?a27 ?l27 ?c27 ?k27 ?a28 ?l28 ?c28 ?k28 ?a29 ?l29 ?c29 ?k29 ?a30 ?l30 ?c30 ?k30 ?a31 ?l31 ?c31 ?k31 ?a32 ?l32 ?c32 ?k32 ?a33 ?l33 ?c33 ?k33 ?a34 ?l34 ?c34 ?k34 ?a35 ?l35 ?c35 ?k35 ?a36 ?l36 ?c36 ?k36 ?y0 ?y1 ?y2 ?y3 ?y4 ?y5 ?y6 ?y7 ?y8 ?y9 ?y10 ?y11 ?y12 ?y13 ?y14 ?y15 ?y16 ?y17 ?g_NONE ?g_NO ?g_YES ?g_UP ?g_DOWN ?g_TEXT ?g_ROW ?g_SIGNS ?g_HOUSE ?g_WORDS ?g_PRIME ?g_BASE ?r_NONE ?r_NO ?r_YES ?r_UP ?r_DOWN ?r_TEXT ?r_ROW ?r_SIGNS ?r_HOUSE ?r_WORDS ?r_PRIME ?r_BASE ?q_WORDS ?v_WORDS ?z_WORDS
    (case a0 => k_is)
    (case l0 => k_is)
    (case c0 => k_is)
    (case k0 => k_is)
    (case a1 => k_is)
    (case l1 => k_is)
    (case t1 => k_is)
    (case v1 => exact (Paired.cons ⟨_, rfl⟩ (Paired.cons rfl Paired.nil)))
    (case c1 => k_is)
    (case k1 => k_is)
    (case a2 => k_is)
    (case l2 => k_is)
    (case t2 => k_is)
    (case v2 => exact (Paired.cons rfl Paired.nil))
    (case c2 => k_is)
    (case k2 => k_is)
    (case a3 => k_is)
    (case l3 => k_is)
    (case t3 => k_is)
    (case v3 => exact (Paired.cons ⟨_, rfl⟩ (Paired.cons rfl Paired.nil)))
    (case c3 => k_is)
    (case k3 => k_is)
    (case a4 => k_is)
    (case l4 => k_is)
    (case c4 => k_is)
    (case k4 => k_is)
    (case a5 => k_is)
    (case l5 => k_is)
    (case c5 => k_is)
    (case k5 => k_is)
    (case a6 => k_is)
    (case l6 => k_is)
    (case c6 => k_is)
    (case k6 => k_is)
    (case a7 => k_is)
    (case l7 => k_is)
    (case c7 => k_is)
    (case k7 => k_is)
    (case a8 => k_is)
    (case l8 => k_is)
    (case c8 => k_is)
    (case k8 => k_is)
    (case a9 => k_is)
    (case l9 => k_is)
    (case c9 => k_is)
    (case k9 => k_is)
    (case a10 => k_is)
    (case l10 => k_is)
    (case c10 => k_is)
    (case k10 => k_is)
    (case a11 => k_is)
    (case l11 => k_is)
    (case c11 => k_is)
    (case k11 => k_is)
    (case a12 => k_is)
    (case l12 => k_is)
    (case c12 => k_is)
    (case k12 => k_is)
    (case a13 => k_is)
    (case l13 => k_is)
    (case c13 => k_is)
    (case k13 => k_is)
    (case a14 => k_is)
    (case l14 => k_is)
    (case c14 => k_is)
    (case k14 => k_is)
    (case a15 => k_is)
    (case l15 => k_is)
    (case c15 => k_is)
    (case k15 => k_is)
    (case a16 => k_is)
    (case l16 => k_is)
    (case c16 => k_is)
    (case k16 => k_is)
    (case a17 => k_is)
    (case l17 => k_is)
    (case c17 => k_is)
    (case k17 => k_is)
    (case a18 => k_is)
    (case l18 => k_is)
    (case c18 => k_is)
    (case k18 => k_is)
    (case a19 => k_is)
    (case l19 => k_is)
    (case c19 => k_is)
    (case k19 => k_is)
    (case a20 => k_is)
    (case l20 => k_is)
    (case c20 => k_is)
    (case k20 => k_is)
    (case a21 => k_is)
    (case l21 => k_is)
    (case c21 => k_is)
    (case k21 => k_is)
    (case a22 => k_is)
    (case l22 => k_is)
    (case c22 => k_is)
    (case k22 => k_is)
    (case a23 => k_is)
    (case l23 => k_is)
    (case c23 => k_is)
    (case k23 => k_is)
    (case a24 => k_is)
    (case l24 => k_is)
    (case c24 => k_is)
    (case k24 => k_is)
    (case a25 => k_is)
    (case l25 => k_is)
    (case c25 => k_is)
    (case k25 => k_is)
    (case a26 => k_is)
    (case l26 => k_is)
    (case c26 => k_is)
    (case k26 => k_is)
    (case a27 => k_is)
    (case l27 => k_is)
    (case c27 => k_is)
    (case k27 => k_is)
    (case a28 => k_is)
    (case l28 => k_is)
    (case c28 => k_is)
    (case k28 => k_is)
    (case a29 => k_is)
    (case l29 => k_is)
    (case c29 => k_is)
    (case k29 => k_is)
    (case a30 => k_is)
    (case l30 => k_is)
    (case c30 => k_is)
    (case k30 => k_is)
    (case a31 => k_is)
    (case l31 => k_is)
    (case c31 => k_is)
    (case k31 => k_is)
    (case a32 => k_is)
    (case l32 => k_is)
    (case c32 => k_is)
    (case k32 => k_is)
    (case a33 => k_is)
    (case l33 => k_is)
    (case c33 => k_is)
    (case k33 => k_is)
    (case a34 => k_is)
    (case l34 => k_is)
    (case c34 => k_is)
    (case k34 => k_is)
    (case a35 => k_is)
    (case l35 => k_is)
    (case c35 => k_is)
    (case k35 => k_is)
    (case a36 => k_is)
    (case l36 => k_is)
    (case c36 => k_is)
    (case k36 => k_is)
    (case y0 => k_is)
    (case y1 => k_is)
    (case y2 => k_is)
    (case y3 => k_is)
    (case y4 => k_is)
    (case y5 => k_is)
    (case y6 => k_is)
    (case y7 => k_is)
    (case y8 => k_is)
    (case y9 => k_is)
    (case y10 => k_is)
    (case y11 => k_is)
    (case y12 => k_is)
    (case y13 => k_is)
    (case y14 => k_is)
    (case y15 => k_is)
    (case y16 => k_is)
    (case y17 => k_is)
    (case g_NONE => k_is)
    (case g_NO => k_is)
    (case g_YES => k_is)
    (case g_UP => k_is)
    (case g_DOWN => k_is)
    (case g_TEXT => k_is)
    (case g_ROW => k_is)
    (case g_SIGNS => k_is)
    (case g_HOUSE => k_is)
    (case g_WORDS => k_is)
    (case g_PRIME => k_is)
    (case g_BASE => k_is)
    (case r_NONE => exact ⟨_, rfl⟩)
    (case r_NO => exact ⟨_, rfl⟩)
    (case r_YES => exact ⟨_, rfl⟩)
    (case r_UP => exact ⟨_, rfl⟩)
    (case r_DOWN => exact ⟨_, rfl⟩)
    (case r_TEXT => exact ⟨_, rfl⟩)
    (case r_ROW => exact ⟨_, rfl⟩)
    (case r_SIGNS => exact ⟨_, rfl⟩)
    (case r_HOUSE => exact ⟨_, rfl⟩)
    (case r_WORDS => exact rfl)
    (case r_PRIME => exact ⟨_, rfl⟩)
    (case r_BASE => exact ⟨_, rfl⟩)
    (case q_WORDS => k_is)
    (case v_WORDS => exact (Paired.cons ⟨_, rfl⟩ (Paired.cons ⟨_, rfl⟩ Paired.nil)))
    (case z_WORDS => decide)
