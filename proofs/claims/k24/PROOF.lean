import PyProof.Rows.All
import Wide.All
import OpenK.AllK
import Wide.FinOn
import HandS.ForMost
import HandS.ForExc
import HandS.TupAny
import HandS.IsInst
import HandS.Flow
import HandS.Deep
import HandS.Zip
import HandS.TryOnly
import HandS.TryMany
import HandS.ExcIs
import HandS.WordsExc
import HandS.WordsDict
import KE.SortData
import KE.KDictKeyed
import KE.KDictCopyH
import PySem.Challenge.RW_seamwright_k24_whole_numbers_of_blocks
section
/-! Ev0: data, terms and the evaluator. Plain Lean, no model in sight. -/
set_option autoImplicit false
namespace Ev

inductive D where
  | non | bl (b : Bool) | int (i : Int) | str (x : List Nat) | tup (ds : List D) | lst (ds : List D) | dct (ks vs : List D) | set (ds : List D)

/-- flags of a value: st: stands still (no own object is reached), fr: a fresh object whose items stand still, ow: an own object, un: unknown -/
inductive Fl where
  | st | fr | ow | un
  deriving DecidableEq

/-- slots: fz: frozen, ow: own -/
inductive Sf where
  | fz | ow
  deriving DecidableEq

abbrev Slot := Option (Sf × D)
abbrev Env := List Slot

inductive R (α : Type) where
  | ok (a : α)
  | ex (c : Nat) (p : List D)
abbrev M (α : Type) := Option (R α)
def M.bind {α β : Type} (m : M α) (f : α → M β) : M β := match m with
  | some (.ok a) => f a
  | some (.ex c p) => some (.ex c p)
  | none => none
@[simp] theorem M.bind_ok {α β : Type} (a : α) (f : α → M β) : M.bind (some (.ok a)) f = f a := rfl
@[simp] theorem M.bind_ex {α β : Type} (c : Nat) (p : List D) (f : α → M β) : M.bind (some (.ex c p)) f = some (.ex c p) := rfl
@[simp] theorem M.bind_none {α β : Type} (f : α → M β) : M.bind none f = none := rfl
def okM {α : Type} (a : α) : M α := some (.ok a)
def liftM {α : Type} : Option α → M α
  | some a => some (.ok a)
  | none => none

/-! ### values -/
mutual
def imm : D → Bool
  | .non => true | .bl _ => true | .int _ => true | .str _ => true
  | .tup ds => imms ds
  | .lst _ => false | .dct _ _ => false | .set _ => false
def imms : List D → Bool
  | [] => true
  | d :: ds => imm d && imms ds
end
/-- items of a fresh container that are immutable -/
def immIn : D → Bool
  | .lst ds => imms ds
  | .dct ks vs => imms ks && imms vs
  | .set ds => imms ds
  | d => imm d

def b2i (b : Bool) : Int := if b then 1 else 0
mutual
def dEq : D → D → Bool
  | .non, .non => true
  | .bl a, .bl b => a == b
  | .bl a, .int j => b2i a == j
  | .int i, .bl b => i == b2i b
  | .int i, .int j => i == j
  | .str x, .str y => x == y
  | .tup xs, .tup ys => dEqs xs ys
  | .lst xs, .lst ys => dEqs xs ys
  | _, _ => false
def dEqs : List D → List D → Bool
  | [], [] => true
  | x :: xs, y :: ys => dEq x y && dEqs xs ys
  | _, _ => false
end
/-! values that == tells apart here: no dict or set -/
mutual
def cmpN : Nat → D → Bool
  | _, .non => true | _, .bl _ => true | _, .int _ => true | _, .str x => x.all fun c => Nat.blt c 1114112
  | n, .tup ds => match n with
    | 0 => false
    | m + 1 => cmpNs m ds
  | n, .lst ds => match n with
    | 0 => false
    | m + 1 => cmpNs m ds
  | _, .dct _ _ => false | _, .set _ => false
def cmpNs : Nat → List D → Bool
  | _, [] => true
  | n, d :: ds => cmpN n d && cmpNs n ds
end
/-- at most 50 deep -/
def cmpOk (d : D) : Bool := cmpN 50 d
def cmpOks (ds : List D) : Bool := cmpNs 50 ds
def flatD : D → Bool
  | .non => true | .bl _ => true | .int _ => true | .str _ => true
  | _ => false
def flatDs : List D → Bool
  | [] => true
  | d :: ds => flatD d && flatDs ds
/-- a key of a dict -/
def keyD : D → Bool
  | .int _ => true | .str _ => true
  | _ => false
def dIn (x : D) : List D → Bool
  | [] => false
  | y :: ys => dEq y x || dIn x ys

def lenLe {α : Type} : List α → Nat → Bool
  | [], _ => true
  | _ :: _, 0 => false
  | _ :: r, n + 1 => lenLe r n
def line : Nat := 16777216

def truth : D → Option Bool
  | .non => some false
  | .bl b => some b
  | .int i => some (i != 0)
  | .str x => if lenLe x line then some (!x.isEmpty) else none
  | .tup ds => some (!ds.isEmpty)
  | .lst ds => some (!ds.isEmpty)
  | .dct _ _ => none
  | .set _ => none

/-! ### syntax -/
inductive BOp where
  | add | sub | mul | fdiv | mod | pow
  deriving DecidableEq
inductive COp where
  | eq | ne | lt | le | gt | ge | is | isNot | isin | notin
  deriving DecidableEq
inductive Pat where
  | var (i : Nat)
  | tup (ps : List Pat)
inductive Ty where
  | int | bool | str | tuple
  deriving DecidableEq

mutual
inductive CE where
  | var (i : Nat)
  | con (d : D)
  | glob (k : Nat)
  | bin (o : BOp) (a b : CE)
  | neg (a : CE)
  | not (a : CE)
  | and (a : CE) (as : CEs)
  | or (a : CE) (as : CEs)
  | cmp (o : COp) (a b : CE)
  | chain (o o' : COp) (a b c : CE)
  | ite (c a b : CE)
  | tup (as : CEs)
  | lst (as : CEs)
  | dct (ks vs : CEs)
  | idx (a i : CE)
  | slc (a : CE) (lo hi : CEs)
  | rev (a : CE)
  | call (f : Nat) (as : CEs)
  | blt (b : Nat) (as : CEs)
  | mth (m : Nat) (o : CE) (as : CEs)
  | comp (vs : List Nat) (t : Pat) (it : CI) (ifs : CEs) (elt : CE)
  | comp2 (vs : List Nat) (t : Pat) (it : CI) (ifs : CEs) (vs1 : List Nat) (t1 : Pat) (it1 : CI) (ifs1 : CEs) (elt : CE)
  | dcomp (vs : List Nat) (t : Pat) (it : CI) (ifs : CEs) (k v : CE)
  | isi (a : CE) (ty : Ty)
inductive CEs where
  | nil
  | cons (a : CE) (as : CEs)
inductive CI where
  | seq (a : CE)
  | rng (as : CEs)
  | enum (a : CE)
  | zip (a b : CE)
  | items (a : CE)
end

/-- what an except clause does: hands back d; hands back a tuple of written values and of the error's fields; a or b, by the error's class; goes on -/
inductive HB where
  | ret (d : D)
  | fld (ds : List D) (ks : List Nat)
  | isi (c : Nat) (a b : D)
  | pass

mutual
inductive CS where
  | pass | brk | cont
  | expr (e : CE)
  | asg (p : Pat) (e : CE)
  | par (is : List Nat) (as : CEs)
  | aug (i : Nat) (o : BOp) (e : CE)
  | app (i : Nat) (e : CE)
  | ext (i : Nat) (e : CE)
  | setI (i : Nat) (k e : CE)
  | augI (i : Nat) (k : CE) (o : BOp) (e : CE)
  | upd (i : Nat) (e : CE)
  | pop (p : Pat) (i : Nat) (a : CEs)
  | rem (i : Nat) (e : CE)
  | ifS (c : CE) (a b : CSs)
  | forS (p : Pat) (it : CI) (b : CSs)
  | whl (c : CE) (b : CSs)
  | ret (e : CE)
  | retN
  | raise (c : Nat) (as : CEs)
  | tryS (b : CSs) (hs : List (List Nat × HB))
inductive CSs where
  | nil
  | cons (a : CS) (as : CSs)
end

/-! ### operators -/
def small64 (i : Int) : Bool := decide (-(2 ^ 64) < i) && decide (i < 2 ^ 64)
def rep (n : Nat) (xs : List D) : List D := (List.replicate n xs).flatten
def evBin (o : BOp) (x y : D) : Option (Bool × D) := match o, x, y with
  | .add, .int i, .int j => some (false, .int (i + j))
  | .sub, .int i, .int j => some (false, .int (i - j))
  | .mul, .int i, .int j => if small64 i || small64 j then some (false, .int (i * j)) else none
  | .fdiv, .int i, .int j => if j != 0 && decide (j.natAbs < 1073741824) then some (false, .int (i.fdiv j)) else none
  | .mod, .int i, .int j => if j != 0 then some (false, .int (i.fmod j)) else none
  | .pow, .int i, .int j => if decide (0 ≤ j) && decide (j ≤ 1000000) && decide (i.natAbs < 2 ^ 64) then some (false, .int (i ^ j.toNat)) else none
  | .add, .str a, .str b => if lenLe (a ++ b) line then some (false, .str (a ++ b)) else none
  | .add, .tup a, .tup b => if lenLe (a ++ b) line then some (false, .tup (a ++ b)) else none
  | .add, .lst a, .lst b => if lenLe (a ++ b) line then some (true, .lst (a ++ b)) else none
  | .mul, .lst a, .int k => if decide (-(2 ^ 63) ≤ k) && decide (k < 2 ^ 63) && decide (a.length * k.toNat ≤ line) then some (true, .lst (rep k.toNat a)) else none
  | _, _, _ => none

/-- a op= b: ints and texts -/
def evAug (o : BOp) (x y : D) : Option (Bool × D) := match o, x, y with
  | .add, .int i, .int j => some (false, .int (i + j))
  | .sub, .int i, .int j => some (false, .int (i - j))
  | .mul, .int i, .int j => if small64 i || small64 j then some (false, .int (i * j)) else none
  | .fdiv, .int i, .int j => if decide (0 < j) && decide (j < 1073741824) then some (false, .int (i / j)) else none
  | .mod, .int i, .int j => if decide (0 < j) then some (false, .int (i % j)) else none
  | .add, .str a, .str b => if lenLe (a ++ b) line then some (false, .str (a ++ b)) else none
  | _, _, _ => none

/-- < where it is told: ints, texts, tuples and lists of the same make -/
inductive Cm where
  | lt | eq | gt
def natsCm : List Nat → List Nat → Cm
  | [], [] => .eq
  | [], _ :: _ => .lt
  | _ :: _, [] => .gt
  | x :: xs, y :: ys => if x < y then .lt else if x = y then natsCm xs ys else .gt
mutual
def dCm : D → D → Option Cm
  | .non, .non => some .eq
  | .bl a, .bl b => some (if a == b then .eq else if a then .gt else .lt)
  | .int i, .int j => some (if i < j then .lt else if i = j then .eq else .gt)
  | .str x, .str y => some (natsCm x y)
  | .tup xs, .tup ys => dsCm xs ys
  | .lst xs, .lst ys => dsCm xs ys
  | _, _ => none
def dsCm : List D → List D → Option Cm
  | [], [] => some .eq
  | [], _ :: _ => some .lt
  | _ :: _, [] => some .gt
  | x :: xs, y :: ys => match dCm x y with
    | some .eq => dsCm xs ys
    | some c => some c
    | none => none
end

def evCmp (o : COp) (x y : D) : Option Bool := match o with
  | .eq => if cmpOk x && cmpOk y then some (dEq x y) else none
  | .ne => if cmpOk x && cmpOk y then some (!dEq x y) else none
  | .lt => match x, y with
    | .int i, .int j => some (decide (i < j))
    | _, _ => none
  | .le => match x, y with
    | .int i, .int j => some (decide (i ≤ j))
    | _, _ => none
  | .gt => match x, y with
    | .int i, .int j => some (decide (j < i))
    | _, _ => none
  | .ge => match x, y with
    | .int i, .int j => some (decide (j ≤ i))
    | _, _ => none
  | .is => match y with
    | .non => some (match x with | .non => true | _ => false)
    | _ => none
  | .isNot => match y with
    | .non => some (match x with | .non => false | _ => true)
    | _ => none
  | .isin => match x, y with
    | .str [c], .str z => some (z.contains c)
    | x, .lst ds => if cmpOk x && cmpOks ds then some (dIn x ds) else none
    | x, .tup ds => if flatD x && flatDs ds then some (dIn x ds) else none
    | x, .dct ks _ => if keyD x then some (dIn x ks) else none
    | _, _ => none
  | .notin => match x, y with
    | .str [c], .str z => some (!z.contains c)
    | x, .lst ds => if cmpOk x && cmpOks ds then some (!dIn x ds) else none
    | x, .tup ds => if flatD x && flatDs ds then some (!dIn x ds) else none
    | x, .dct ks _ => if keyD x then some (!dIn x ks) else none
    | _, _ => none

/-! ### places -/
def ixAt (n : Nat) (i : Int) : Option Nat := if 0 ≤ i then (if i < n then some i.toNat else none) else if -(n : Int) ≤ i then some (i + n).toNat else none
def atD (ds : List D) (i : Int) : Option D := (ixAt ds.length i).bind fun j => ds[j]?
def clip (n d : Nat) : Option Int → Nat
  | none => d
  | some v => if v < 0 then (v + n).toNat else min v.toNat n
def cutL {α : Type} (xs : List α) (lo hi : Option Int) : List α := (xs.drop (clip xs.length 0 lo)).take (clip xs.length xs.length hi - clip xs.length 0 lo)
def look (k : D) : List D → List D → Option D
  | k' :: ks, v :: vs => if dEq k' k then some v else look k ks vs
  | _, _ => none
def evIdx (x i : D) : Option D := match x, i with
  | .lst ds, .int i => atD ds i
  | .tup ds, .int i => atD ds i
  | .str z, .int i => if !lenLe z line then none else ((ixAt z.length i).bind fun j => z[j]?).map fun c => .str [c]
  | .dct ks vs, k => if keyD k then look k ks vs else none
  | _, _ => none
def evSlc (x : D) (lo hi : Option Int) : Option (Bool × D) := match x with
  | .lst ds => some (true, .lst (cutL ds lo hi))
  | .set ds => some (true, .lst (cutL ds lo hi))
  | .tup ds => some (false, .tup (cutL ds lo hi))
  | .str z => if lenLe z line then some (false, .str (cutL z lo hi)) else none
  | _ => none

/-! ### flags -/
def Fl.isUn : Fl → Bool
  | .un => true
  | _ => false
def anyUn : List Fl → Bool
  | [] => false
  | f :: fs => f.isUn || anyUn fs
/-- the flag of what a primitive gives -/
def outFl (u : Bool) (fresh : Bool) (d : D) : Fl :=
  if u then (if imm d then .st else if fresh && immIn d then .fr else .un) else if fresh then .fr else .st
/-- may it be stored as an item of something else -/
def Fl.still : Fl → D → Bool
  | .st, _ => true
  | .fr, _ => true
  | _, d => imm d
def stills : List (Fl × D) → Bool
  | [] => true
  | (f, d) :: r => f.still d && stills r

/-! ### the environment -/
def getS (env : Env) (i : Nat) : Option (Sf × D) := match env[i]? with
  | some (some s) => some s
  | _ => none
def thaw : Slot → Slot
  | some (_, d) => some (.fz, d)
  | none => none
def freezeAll (env : Env) : Env := env.map thaw
def isBox : D → Bool
  | .lst _ => true | .dct _ _ => true | .set _ => true
  | _ => false
def wipeE (env : Env) : List Nat → Env
  | [] => env
  | v :: vs => (wipeE env vs).set v none
mutual
/-- items that stand still -/
def bindP (env : Env) : Pat → D → Option Env
  | .var i, d => some (env.set i (some (.fz, d)))
  | .tup ps, .tup ds => bindPs env ps ds
  | .tup ps, .lst ds => bindPs env ps ds
  | .tup _, _ => none
def bindPs (env : Env) : List Pat → List D → Option Env
  | [], [] => some env
  | p :: ps, d :: ds => (bindP env p d).bind fun env' => bindPs env' ps ds
  | _, _ => none
end

def varP : Pat → Option Nat
  | .var i => some i
  | _ => none
/-- a value comes to a target; f: its flag -/
def stP (env : Env) (p : Pat) (f : Fl) (d : D) : Option Env := match varP p with
  | some i => if isBox d && f == .fr then some (env.set i (some (.ow, d))) else bindP (if f.still d then env else freezeAll env) p d
  | none => bindP (if f.still d then env else freezeAll env) p d
/-- own variables that are handed on, or walked, are frozen -/
def froz (env : Env) : List Nat → Env
  | [] => env
  | i :: is => match env[i]? with
    | some (some (.ow, d)) => froz (env.set i (some (.fz, d))) is
    | _ => froz env is

/-! ### primitives by name: tables given from outside -/
abbrev Prim := List D → Option (Bool × D)
/-- the kinds of receivers that have a method: 1 int, 2 str, 3 tuple, 4 list, 5 dict -/
def kindOf : D → Nat
  | .int _ => 1 | .str _ => 2 | .tup _ => 3 | .lst _ => 4 | .dct _ _ => 5 | _ => 0
structure Mth where
  ks : List Nat
  run : D → List D → Option (Bool × D)
def natIn (n : Nat) : List Nat → Bool
  | [] => false
  | k :: ks => n == k || natIn n ks
structure Tb where
  con : List D
  blt : List Prim
  mth : List Mth
  sub : Nat → Nat → Bool

def enumD (n : Nat) : List D → List D
  | [] => []
  | d :: ds => .tup [.int (n : Int), d] :: enumD (n + 1) ds
def zipD : List D → List D → List D
  | x :: xs, y :: ys => .tup [x, y] :: zipD xs ys
  | _, _ => []
def rangeD (lo : Int) : Nat → List D
  | 0 => []
  | n + 1 => .int lo :: rangeD (lo + 1) n
/-- a range's step: upwards -/
def stepsUp (lo hi c : Int) : Nat := if 0 < c then ((hi - lo + c - 1).fdiv c).toNat else ((lo - hi - c - 1).fdiv (-c)).toNat
def rangeC (lo c : Int) : Nat → List D
  | 0 => []
  | n + 1 => .int lo :: rangeC (lo + c) c n
def in62 (i : Int) : Bool := decide (-(2 ^ 62) ≤ i) && decide (i < 2 ^ 62)
def evRng (as : List D) : Option (List D) := match as with
  | [.int j] => if in62 j && decide (j ≤ line) then some (rangeD 0 j.toNat) else none
  | [.int i, .int j] => if in62 i && in62 j && decide (j - i ≤ line) then some (rangeD i (j - i).toNat) else none
  | [.int i, .int j, .int c] => if in62 i && in62 j && c != 0 && decide (c.natAbs < 1073741824) && decide (stepsUp i j c ≤ line) then some (rangeC i c (stepsUp i j c)) else none
  | _ => none
def seqOf : D → Option (List D)
  | .lst ds => some ds
  | .tup ds => some ds
  | _ => none
def isVar : CE → Bool
  | .var _ => true
  | _ => false
def solid (a : CE) (f : Fl) (d : D) : Bool := isVar a || !isBox d || (match f with | .st => true | .fr => true | _ => false)
def itemsOf : D → Option (List D)
  | .lst ds => some ds
  | .tup ds => some ds
  | .str z => if lenLe z line then some (z.map fun c => .str [c]) else none
  | _ => none
/-- items to walk; they must stand still -/
def walkable (f : Fl) (ds : List D) : Option (List D) := if f.isUn && !imms ds then none else some ds
def pairD : List D → List D → List D
  | k :: ks, v :: vs => .tup [k, v] :: pairD ks vs
  | _, _ => []
def tyIs : Ty → D → Bool
  | .int, .int _ => true
  | .int, .bl _ => true
  | .bool, .bl _ => true
  | .str, .str _ => true
  | .tuple, .tup _ => true
  | _, _ => false

def noDct : D → Bool
  | .dct _ _ => false | .set _ => false
  | _ => true
/-- a dict's store -/
def putD (k v : D) : List D → List D → List D × List D
  | k' :: ks, v' :: vs => if dEq k' k then (k' :: ks, v :: vs) else let r := putD k v ks vs; (k' :: r.1, v' :: r.2)
  | _, _ => ([k], [v])
mutual
def hashable : D → Bool
  | .non => true | .bl _ => true | .int _ => true | .str _ => true
  | .tup ds => hashables ds
  | _ => false
def hashables : List D → Bool
  | [] => true
  | d :: ds => hashable d && hashables ds
end

abbrev Call := Nat → List D → M (Fl × D)

def fls : List (Fl × D) → List Fl
  | [] => []
  | p :: r => p.1 :: fls r
def vals : List (Fl × D) → List D
  | [] => []
  | p :: r => p.2 :: vals r

/-- keys, no two alike -/
def distK : List D → Bool
  | [] => true
  | k :: ks => keyD k && !dIn k ks && distK ks
/-- the turns of a comprehension; they raise nothing -/
def calmM {α : Type} (m : M α) : M α := match m with
  | some (.ok a) => some (.ok a)
  | _ => none
def turns (f : D → M (Option D)) : List D → M (List D)
  | [] => okM []
  | x :: xs => (f x).bind fun o => (turns f xs).bind fun r => match o with
    | some d => okM (d :: r)
    | none => okM r
def turnsF (f : D → M (List D)) : List D → M (List D)
  | [] => okM []
  | x :: xs => (f x).bind fun o => (turnsF f xs).bind fun r => okM (o ++ r)
def dturns (f : D → M (Option (D × D))) : List D → List D → List D → M (List D × List D)
  | [], ks, vs => okM (ks, vs)
  | x :: xs, ks, vs => (f x).bind fun o => match o with
    | some (k, v) => if hashable k then let p := putD k v ks vs; dturns f xs p.1 p.2 else none
    | none => dturns f xs ks vs

mutual
def evE (T : Tb) (cl : Call) (env : Env) : CE → M (Fl × D)
  | .var i => match getS env i with
    | some (.fz, d) => okM (.st, d)
    | some (_, d) => okM (.ow, d)
    | none => none
  | .con d => okM (.st, d)
  | .glob k => match T.con[k]? with
    | some d => okM (.st, d)
    | none => none
  | .bin o a b => (evE T cl env a).bind fun x => (evE T cl env b).bind fun y => match evBin o x.2 y.2 with
    | some (f, d) => okM (outFl (x.1.isUn || y.1.isUn) f d, d)
    | none => none
  | .neg a => (evE T cl env a).bind fun x => match x.2 with
    | .int i => okM (.st, .int (-i))
    | _ => none
  | .not a => (evE T cl env a).bind fun x => match truth x.2 with
    | some b => okM (.st, .bl (!b))
    | none => none
  | .and a as => (evE T cl env a).bind fun x => evAnd T cl env x as
  | .or a as => (evE T cl env a).bind fun x => evOr T cl env x as
  | .cmp o a b => (evE T cl env a).bind fun x => (evE T cl env b).bind fun y => match evCmp o x.2 y.2 with
    | some c => okM (.st, .bl c)
    | none => none
  | .chain o o' a b c => (evE T cl env a).bind fun x => (evE T cl env b).bind fun y => match evCmp o x.2 y.2 with
    | some true => (evE T cl env c).bind fun z => match evCmp o' y.2 z.2 with
      | some r => okM (.st, .bl r)
      | none => none
    | some false => okM (.st, .bl false)
    | none => none
  | .ite c a b => (evE T cl env c).bind fun x => match truth x.2 with
    | some true => evE T cl env a
    | some false => evE T cl env b
    | none => none
  | .tup as => (evEs T cl env as).bind fun xs => okM (if stills xs then .st else .un, .tup (vals xs))
  | .lst as => (evEs T cl env as).bind fun xs => okM (if stills xs then .fr else .un, .lst (vals xs))
  | .dct ks vs => (evEs T cl env ks).bind fun xs => (evEs T cl env vs).bind fun ys =>
    if distK (vals xs) && stills ys then okM (.fr, .dct (vals xs) (vals ys)) else none
  | .idx a i => (evE T cl env a).bind fun x => (evE T cl env i).bind fun y => match evIdx x.2 y.2 with
    | some d => okM (outFl (x.1.isUn || y.1.isUn) false d, d)
    | none => none
  | .slc a lo hi => (evE T cl env a).bind fun x => (evO T cl env lo).bind fun l => (evO T cl env hi).bind fun h => match evSlc x.2 l h with
    | some (f, d) => okM (outFl x.1.isUn f d, d)
    | none => none
  | .rev a => (evE T cl env a).bind fun x => match x.2 with
    | .lst ds => okM (outFl x.1.isUn true (.lst ds.reverse), .lst ds.reverse)
    | _ => none
  | .call f as => (evEs T cl env as).bind fun xs => (cl f (vals xs)).bind fun r =>
    okM (outFl (!stills xs) (r.1 == .fr) r.2, r.2)
  | .blt b as => (evEs T cl env as).bind fun xs => match T.blt[b]? with
    | some p => match p (vals xs) with
      | some (f, d) => okM (outFl (anyUn (fls xs)) f d, d)
      | none => none
    | none => none
  | .mth m o as => match T.mth[m]? with
    | some p => (evE T cl env o).bind fun x => if natIn (kindOf x.2) p.ks then
        (evEs T cl env as).bind fun xs => match p.run x.2 (vals xs) with
        | some (f, d) => okM (outFl (x.1.isUn || anyUn (fls xs)) f d, d)
        | none => none
      else none
    | none => none
  | .comp vs t it ifs elt => (evI T cl env it).bind fun q => let ds := q.2
    (turns (fun d => match bindP (wipeE env vs) t d with
      | some env1 => calmM ((evTs T cl env1 ifs).bind fun b => if b then
          (evE T cl env1 elt).bind fun y => if y.1.still y.2 then okM (some y.2) else none
        else okM none)
      | none => none) ds).bind fun r => if lenLe r line then okM (.fr, .lst r) else none
  | .comp2 vs t it ifs vs1 t1 it1 ifs1 elt => (evI T cl env it).bind fun q => let ds := q.2
    (turnsF (fun d => match bindP (wipeE env vs) t d with
      | some env1 => calmM ((evTs T cl env1 ifs).bind fun b => if b then
          (evI T cl env1 it1).bind fun q1 => let ds1 := q1.2
            turns (fun d1 => match bindP (wipeE env1 vs1) t1 d1 with
            | some env2 => (evTs T cl env2 ifs1).bind fun b => if b then
                (evE T cl env2 elt).bind fun y => if y.1.still y.2 then okM (some y.2) else none
              else okM none
            | none => none) ds1
        else okM [])
      | none => none) ds).bind fun r => if lenLe r line then okM (.fr, .lst r) else none
  | .dcomp vs t it ifs k v => (evI T cl env it).bind fun q => let ds := q.2
    (dturns (fun d => match bindP (wipeE env vs) t d with
      | some env1 => calmM ((evTs T cl env1 ifs).bind fun b => if b then
          (evE T cl env1 k).bind fun x => (evE T cl env1 v).bind fun y => if y.1.still y.2 then okM (some (x.2, y.2)) else none
        else okM none)
      | none => none) ds [] []).bind fun r => okM (.fr, .dct r.1 r.2)
  | .isi a ty => (evE T cl env a).bind fun x => if noDct x.2 then okM (.st, .bl (tyIs ty x.2)) else none
def evAnd (T : Tb) (cl : Call) (env : Env) (x : Fl × D) : CEs → M (Fl × D)
  | .nil => okM x
  | .cons a as => match truth x.2 with
    | some true => (evE T cl env a).bind fun y => evAnd T cl env y as
    | some false => okM x
    | none => none
def evOr (T : Tb) (cl : Call) (env : Env) (x : Fl × D) : CEs → M (Fl × D)
  | .nil => okM x
  | .cons a as => match truth x.2 with
    | some false => (evE T cl env a).bind fun y => evOr T cl env y as
    | some true => okM x
    | none => none
def evEs (T : Tb) (cl : Call) (env : Env) : CEs → M (List (Fl × D))
  | .nil => okM []
  | .cons a as => (evE T cl env a).bind fun x => (evEs T cl env as).bind fun r => okM (x :: r)
def evTs (T : Tb) (cl : Call) (env : Env) : CEs → M Bool
  | .nil => okM true
  | .cons a as => (evE T cl env a).bind fun x => match truth x.2 with
    | some true => evTs T cl env as
    | some false => okM false
    | none => none
def evO (T : Tb) (cl : Call) (env : Env) : CEs → M (Option Int)
  | .nil => okM none
  | .cons a _ => (evE T cl env a).bind fun x => match x.2 with
    | .int i => okM (some i)
    | _ => none
/-- what is walked: is it surely no own object but the variables named; the items -/
def evI (T : Tb) (cl : Call) (env : Env) : CI → M (Bool × List D)
  | .seq a => (evE T cl env a).bind fun x => liftM ((itemsOf x.2).bind fun ds => (walkable x.1 ds).map fun ds => (solid a x.1 x.2, ds))
  | .rng as => (evEs T cl env as).bind fun xs => liftM ((evRng (vals xs)).map fun ds => (true, ds))
  | .enum a => (evE T cl env a).bind fun x => liftM ((seqOf x.2).bind fun ds => (walkable x.1 (enumD 0 ds)).map fun ds => (solid a x.1 x.2, ds))
  | .zip a b => (evE T cl env a).bind fun x => (evE T cl env b).bind fun y => liftM ((seqOf x.2).bind fun xs => (seqOf y.2).bind fun ys =>
      (walkable (if x.1.isUn || y.1.isUn then .un else .st) (zipD xs ys)).map fun ds => (solid a x.1 x.2 && solid b y.1 y.2, ds))
  | .items a => (evE T cl env a).bind fun x => match x.2 with
    | .dct ks vs => liftM ((walkable x.1 (pairD ks vs)).map fun ds => (solid a x.1 x.2, ds))
    | _ => none
end

/-! ### statements -/
inductive SR where
  | nx (env : Env)
  | rt (f : Fl) (d : D)
  | bk (env : Env)
  | ct (env : Env)
  | ex (env : Env) (c : Nat) (p : List D)
abbrev SM := Option SR
def xp {α : Type} (env : Env) (m : M α) (k : α → SM) : SM := match m with
  | some (.ok a) => k a
  | some (.ex c p) => some (.ex env c p)
  | none => none
def nxM : Option Env → SM
  | some e => some (.nx e)
  | none => none
def varOf : CE → List Nat
  | .var i => [i]
  | _ => []
def varsOf : CEs → List Nat
  | .nil => []
  | .cons a as => varOf a ++ varsOf as
def parS (env : Env) : List Nat → List (Fl × D) → Option Env
  | [], [] => some env
  | i :: is, (f, d) :: xs => if f == .st || f == .fr then (stP env (.var i) f d).bind fun e => parS e is xs else none
  | _, _ => none
/-- a for's turns -/
def loop (f : Env → D → SM) : List D → Env → SM
  | [], env => some (.nx env)
  | x :: xs, env => match f env x with
    | some (.nx e) => loop f xs e
    | some (.ct e) => loop f xs e
    | some (.bk e) => some (.nx e)
    | r => r
def whileN (c : Env → M Bool) (f : Env → SM) : Nat → Env → SM
  | 0, _ => none
  | n + 1, env => xp env (c env) fun b => if b then
      match f env with
      | some (.nx e) => whileN c f n e
      | some (.ct e) => whileN c f n e
      | some (.bk e) => some (.nx e)
      | r => r
    else some (.nx env)
def seqS (r : SM) (k : Env → SM) : SM := match r with
  | some (.nx e) => k e
  | r => r
/-- the variables that are walked -/
def ciVars : CI → List Nat
  | .seq (.var i) => [i]
  | .enum (.var i) => [i]
  | .items (.var i) => [i]
  | .zip (.var i) (.var j) => [i, j]
  | .zip (.var i) _ => [i]
  | .zip _ (.var j) => [j]
  | _ => []
def ownAt (env : Env) (i : Nat) : Option D := match getS env i with
  | some (.ow, d) => some d
  | _ => none
def setAt (ds : List D) (i : Int) (d : D) : Option (List D) := (ixAt ds.length i).map fun j => ds.set j d
def putAll : List D → List D → List D → List D → List D × List D
  | k :: ks, v :: vs, ks', vs' => let p := putD k v ks' vs'; putAll ks vs p.1 p.2
  | _, _, ks', vs' => (ks', vs')
def remD (x : D) : List D → Option (List D)
  | [] => none
  | y :: ys => if dEq y x then some ys else (remD x ys).map (y :: ·)
def dropK (k : D) : List D → List D → Option (D × List D × List D)
  | k' :: ks, v :: vs => if dEq k' k then some (v, ks, vs) else (dropK k ks vs).map fun r => (r.1, k' :: r.2.1, v :: r.2.2)
  | _, _ => none
def fldsAt (p : List D) : List Nat → Option (List D)
  | [] => some []
  | k :: ks => match p[k]? with
    | some d => (fldsAt p ks).map (d :: ·)
    | none => none
def handle1 (T : Tb) (env : Env) (c : Nat) (p : List D) : HB → SM
  | .ret d => some (.rt .st d)
  | .fld ds ks => match fldsAt p ks with
    | some fs => some (.rt .st (.tup (ds ++ fs)))
    | none => none
  | .isi k a b => some (.rt .st (if T.sub c k then a else b))
  | .pass => some (.nx env)
def handle (T : Tb) (env : Env) (c : Nat) (p : List D) : List (List Nat × HB) → SM
  | [] => some (.ex env c p)
  | (cs, h) :: r => if cs.any fun k => T.sub c k then handle1 T env c p h else handle T env c p r
mutual
def exS (T : Tb) (cl : Call) (W : Nat) (env : Env) : CS → SM
  | .pass => some (.nx env)
  | .brk => some (.bk env)
  | .cont => some (.ct env)
  | .expr e => xp env (evE T cl env e) fun _ => some (.nx env)
  | .asg p e => let env := froz env (varOf e)
    xp env (evE T cl env e) fun x => nxM (stP env p x.1 x.2)
  | .par is as => let env := froz env (varsOf as)
    xp env (evEs T cl env as) fun xs => nxM (parS env is xs)
  | .aug i o e => match getS env i with
    | some (.fz, x) => xp env (evE T cl env e) fun y => match evAug o x y.2 with
      | some (f, d) => nxM (stP env (.var i) (outFl y.1.isUn f d) d)
      | none => none
    | _ => none
  | .app i e => match ownAt env i with
    | some (.lst xs) => xp env (evE T cl env e) fun y => if y.1.still y.2 && lenLe (xs ++ [y.2]) line then some (.nx (env.set i (some (.ow, .lst (xs ++ [y.2]))))) else none
    | _ => none
  | .ext i e => xp env (evE T cl env e) fun y => match ownAt env i, y.2 with
    | some (.lst xs), .lst ys => if lenLe (xs ++ ys) line && (!y.1.isUn || imms ys) then some (.nx (env.set i (some (.ow, .lst (xs ++ ys))))) else none
    | some (.lst xs), .tup ys => if lenLe (xs ++ ys) line && (!y.1.isUn || imms ys) then some (.nx (env.set i (some (.ow, .lst (xs ++ ys))))) else none
    | _, _ => none
  | .setI i k e => xp env (evE T cl env e) fun y => xp env (evE T cl env k) fun z => match ownAt env i with
    | some (.lst xs) => match z.2 with
      | .int n => match setAt xs n y.2 with
        | some xs' => if y.1.still y.2 then some (.nx (env.set i (some (.ow, .lst xs')))) else none
        | none => none
      | _ => none
    | some (.dct ks vs) => if hashable z.2 && y.1.still y.2 then let p := putD z.2 y.2 ks vs; some (.nx (env.set i (some (.ow, .dct p.1 p.2)))) else none
    | _ => none
  | .augI i k o e => xp env (evE T cl env k) fun z => match ownAt env i with
    | some b => match evIdx b z.2 with
      | some old => xp env (evE T cl env e) fun y => if isBox old then none else match evBin o old y.2 with
        | some (false, new) => if y.1.isUn && !imm new then none else match b, z.2 with
          | .lst xs, .int n => match setAt xs n new with
            | some xs' => some (.nx (env.set i (some (.ow, .lst xs'))))
            | none => none
          | .dct ks vs, kk => if hashable kk then let p := putD kk new ks vs; some (.nx (env.set i (some (.ow, .dct p.1 p.2)))) else none
          | _, _ => none
        | _ => none
      | none => none
    | none => none
  | .upd i e => xp env (evE T cl env e) fun y => match ownAt env i, y.2 with
    | some (.dct ks vs), .dct ks' vs' => if !y.1.isUn || imms vs' then let p := putAll ks' vs' ks vs; some (.nx (env.set i (some (.ow, .dct p.1 p.2)))) else none
    | _, _ => none
  | .pop p i a => xp env (evEs T cl env a) fun xs => match ownAt env i, vals xs with
    | some (.lst ds), [] => match ds.getLast? with
      | some d => nxM (stP (env.set i (some (.ow, .lst ds.dropLast))) p .st d)
      | none => none
    | some (.lst ds), [.int n] => match ixAt ds.length n with
      | some j => match ds[j]? with
        | some d => nxM (stP (env.set i (some (.ow, .lst (ds.eraseIdx j)))) p .st d)
        | none => none
      | none => none
    | some (.dct ks vs), [k] => match dropK k ks vs with
      | some (d, ks', vs') => nxM (stP (env.set i (some (.ow, .dct ks' vs'))) p .st d)
      | none => none
    | _, _ => none
  | .rem i e => xp env (evE T cl env e) fun y => match ownAt env i with
    | some (.lst ds) => if cmpOk y.2 && cmpOks ds then match remD y.2 ds with
        | some ds' => some (.nx (env.set i (some (.ow, .lst ds'))))
        | none => none
      else none
    | _ => none
  | .ifS c a b => xp env (evE T cl env c) fun x => match truth x.2 with
    | some true => exSs T cl W env a
    | some false => exSs T cl W env b
    | none => none
  | .forS p it b => let env := froz env (ciVars it)
    xp env (evI T cl env it) fun ds => if ds.1 then loop (fun e d => match bindP e p d with
        | some e1 => exSs T cl W e1 b
        | none => none) ds.2 env
      else none
  | .whl c b => whileN (fun e => (evE T cl e c).bind fun x => liftM (truth x.2)) (fun e => exSs T cl W e b) W env
  | .ret e => match e with
    | .var j => match getS env j with
      | some (.fz, d) => some (.rt .st d)
      | some (_, d) => some (.rt .fr d)
      | none => none
    | e => xp env (evE T cl env e) fun x => some (.rt (if x.1 == .fr then .fr else .st) x.2)
  | .retN => some (.rt .st .non)
  | .raise c as => xp env (evEs T cl env as) fun xs => if stills xs then some (.ex env c (vals xs)) else none
  | .tryS b hs => match exSs T cl W env b with
    | some (.ex e c p) => handle T e c p hs
    | r => r
def exSs (T : Tb) (cl : Call) (W : Nat) (env : Env) : CSs → SM
  | .nil => some (.nx env)
  | .cons a as => seqS (exS T cl W env a) fun e => exSs T cl W e as
end

/-! ### defs -/
structure Fn where
  np : Nat
  nl : Nat
  body : CSs
def frameOf (fn : Fn) (ds : List D) : Env := ds.map (fun d => some (Sf.fz, d)) ++ List.replicate (fn.nl - fn.np) none
def callN (T : Tb) (P : List Fn) (W : Nat) : Nat → Call
  | 0, _, _ => none
  | n + 1, f, ds => match P[f]? with
    | some fn => if ds.length = fn.np then
        match exSs T (callN T P W n) W (frameOf fn ds) fn.body with
        | some (.rt fl d) => okM (fl, d)
        | some (.nx _) => okM (.st, .non)
        | some (.ex _ c p) => some (.ex c p)
        | _ => none
      else none
    | none => none
end Ev

end
section
/-! Ev1: the primitives by name. -/
set_option autoImplicit false
namespace Ev
/-- what stands at each place of values that can be compared: the longest make -/
inductive Sh where
  | non | bl | int | str | tup (ss : List Sh) | lst (ss : List Sh) | bad
mutual
def shp : D → Sh
  | .non => .non | .bl _ => .bl | .int _ => .int | .str _ => .str
  | .tup ds => .tup (shps ds)
  | .lst ds => .lst (shps ds)
  | _ => .bad
def shps : List D → List Sh
  | [] => []
  | d :: ds => shp d :: shps ds
end
mutual
def shJoin : Sh → Sh → Sh
  | .non, .non => .non | .bl, .bl => .bl | .int, .int => .int | .str, .str => .str
  | .tup a, .tup b => .tup (shJoins a b)
  | .lst a, .lst b => .lst (shJoins a b)
  | _, _ => .bad
def shJoins : List Sh → List Sh → List Sh
  | a :: as, b :: bs => shJoin a b :: shJoins as bs
  | [], bs => bs
  | as, [] => as
end
mutual
def shOk : D → Sh → Bool
  | .non, .non => true | .bl _, .bl => true | .int _, .int => true | .str _, .str => true
  | .tup ds, .tup ss => shOks ds ss
  | .lst ds, .lst ss => shOks ds ss
  | _, _ => false
def shOks : List D → List Sh → Bool
  | [], _ => true
  | d :: ds, s :: ss => shOk d s && shOks ds ss
  | _ :: _, [] => false
end
def joinAll : List D → Option Sh
  | [] => none
  | [d] => some (shp d)
  | d :: ds => (joinAll ds).map fun s => shJoin (shp d) s
def allOk (s : Sh) : List D → Bool
  | [] => true
  | d :: ds => shOk d s && allOk s ds
def isTupC : D → Bool
  | .tup (_ :: _) => true
  | _ => false
def isFlatK : D → Bool
  | .bl _ => true | .int _ => true | .str _ => true | .lst _ => true
  | _ => false
def allB (f : D → Bool) : List D → Bool
  | [] => true
  | d :: ds => f d && allB f ds
/-- all can be sorted -/
def sortable (ds : List D) : Bool := (match joinAll ds with
  | some s => allOk s ds
  | none => true) && (allB isTupC ds || allB isFlatK ds)
def ltD (x y : D) : Bool := match dCm x y with
  | some .lt => true
  | _ => false
def insD (x : D) : List D → List D
  | [] => [x]
  | y :: ys => if ltD y x then y :: insD x ys else x :: y :: ys
def isort : List D → List D
  | [] => []
  | x :: xs => insD x (isort xs)
def sortD (ds : List D) : Option (List D) := if sortable ds then some (isort ds) else none
def minD : D → List D → D
  | x, [] => x
  | x, y :: ys => minD (if ltD y x then y else x) ys
def maxD : D → List D → D
  | x, [] => x
  | x, y :: ys => maxD (if ltD x y then y else x) ys
def dedup : List D → List D → List D
  | [], acc => acc
  | x :: xs, acc => if dIn x acc then dedup xs acc else dedup xs (acc ++ [x])
def numOf : D → Option Int
  | .int i => some i
  | .bl b => some (b2i b)
  | _ => none
def sumD : List D → Int → Option Int
  | [], a => some a
  | x :: xs, a => (numOf x).bind fun i => sumD xs (a + i)
def truths : List D → Option (List Bool)
  | [] => some []
  | x :: xs => (truth x).bind fun b => (truths xs).map (b :: ·)
def lenD : D → Option Nat
  | .lst ds => some ds.length
  | .tup ds => some ds.length
  | .str z => if lenLe z line then some z.length else none
  | .dct ks _ => some ks.length
  | .set ds => some ds.length
  | _ => none
def pLen : Prim
  | [x] => (lenD x).map fun n => (false, .int (n : Nat))
  | _ => none
def pTuple : Prim
  | [.lst ds] => some (false, .tup ds)
  | [.tup ds] => some (false, .tup ds)
  | _ => none
def pList : Prim
  | [.lst ds] => some (true, .lst ds)
  | [.tup ds] => some (true, .lst ds)
  | [.str z] => if lenLe z line then some (true, .lst (z.map fun c => .str [c])) else none
  | _ => none
def pSorted : Prim
  | [.lst ds] => (sortD ds).map fun r => (true, .lst r)
  | [.tup ds] => (sortD ds).map fun r => (true, .lst r)
  | [.set ds] => (sortD ds).map fun r => (true, .lst r)
  | [.dct ks _] => (sortD ks).map fun r => (true, .lst r)
  | _ => none
def pSum : Prim
  | [.lst ds] => (sumD ds 0).map fun n => (false, .int n)
  | [.tup ds] => (sumD ds 0).map fun n => (false, .int n)
  | _ => none
def mm (f : D → List D → D) : List D → Option (Bool × D)
  | x :: xs => if (match joinAll (x :: xs) with | some s => allOk s (x :: xs) | none => false) then some (false, f x xs) else none
  | [] => none
def pMin : Prim
  | [.int i, .int j] => some (false, .int (if j < i then j else i))
  | _ => none
def pMax : Prim
  | [.lst ds] => mm maxD ds
  | [.tup ds] => mm maxD ds
  | [x, y] => mm maxD [x, y]
  | [x, y, z] => mm maxD [x, y, z]
  | _ => none
def boolsOf : List D → Option (List Bool)
  | [] => some []
  | .bl b :: xs => (boolsOf xs).map (b :: ·)
  | _ => none
def pAll : Prim
  | [.lst ds] => (boolsOf ds).map fun bs => (false, .bl (bs.all id))
  | _ => none
def pAny : Prim
  | [.lst ds] => (boolsOf ds).map fun bs => (false, .bl (bs.any id))
  | _ => none
def pAbs : Prim
  | [.int i] => some (false, .int (if i < 0 then -i else i))
  | _ => none
def digitsVal : List Nat → Option Int → Option Int
  | [], a => a
  | c :: cs, a => if 48 ≤ c && c ≤ 57 then digitsVal cs (some (a.getD 0 * 10 + (c - 48 : Nat))) else none
def pInt : Prim
  | [.int i] => some (false, .int i)
  | [.bl b] => some (false, .int (b2i b))
  | _ => none
def pSet : Prim
  | [.lst ds] => if hashables ds then some (true, .set (dedup ds [])) else none
  | [.tup ds] => if hashables ds then some (true, .set (dedup ds [])) else none
  | _ => none
def strOf (i : Int) : List Nat := (toString i).toList.map Char.toNat
def pStr : Prim
  | [.int i] => some (false, .str (strOf i))
  | _ => none
def pairsOf : List D → Option (List D × List D)
  | [] => some ([], [])
  | .tup [k, v] :: r => (pairsOf r).map fun p => (k :: p.1, v :: p.2)
  | _ => none
def pDict : Prim
  | [.dct ks vs] => some (true, .dct ks vs)
  | [.lst ds] => (pairsOf ds).bind fun p => if hashables p.1 then (let q := putAll p.1 p.2 [] []; some (true, .dct q.1 q.2)) else none
  | [.tup ds] => (pairsOf ds).bind fun p => if hashables p.1 then (let q := putAll p.1 p.2 [] []; some (true, .dct q.1 q.2)) else none
  | _ => none
/-- list(range(..)), tuple(range(..)) -/
def pListR : Prim := fun as => (evRng as).map fun ds => (true, .lst ds)
def pTupR : Prim := fun as => (evRng as).map fun ds => (false, .tup ds)
/-- list(zip(a, b)), dict(zip(a, b)) -/
def pListZ : Prim
  | [x, y] => (seqOf x).bind fun a => (seqOf y).map fun b => (true, .lst (zipD a b))
  | _ => none
def pDictZ : Prim
  | [x, y] => (seqOf x).bind fun a => (seqOf y).bind fun b => if hashables a then (let q := putAll (a.take b.length) (b.take a.length) [] []; some (true, .dct q.1 q.2)) else none
  | _ => none
def pSumV : Prim
  | [.dct _ vs] => (sumD vs 0).map fun n => (false, .int n)
  | _ => none
def pMaxV : Prim
  | [.dct _ vs] => mm maxD vs
  | _ => none
def pListV : Prim
  | [.dct _ vs] => some (true, .lst vs)
  | _ => none
def insAll (x : D) : List (List D) → List (List D)
  | [] => []
  | p :: r => (x :: p) :: insAll x r
/-- the orders of ds, as itertools tells them -/
def perms : Nat → List D → List (List D)
  | 0, _ => [[]]
  | n + 1, ds => (List.range ds.length).flatMap fun i => match ds[i]? with
    | some d => insAll d (perms n (ds.eraseIdx i))
    | none => []
def pPerms : Prim := fun as => (evRng as).map fun ds => (true, .lst ((perms ds.length ds).map .tup))
def stdB : List Prim := [pLen, pTuple, pList, pSorted, pSum, pMin, pMax, pAll, pAny, pAbs, pInt, pSet, pStr, pDict, pListR, pTupR, pListZ, pDictZ, pSumV, pMaxV, pListV, pPerms]

/-! methods -/
def cntD (x : D) : List D → Nat
  | [] => 0
  | y :: ys => (if dEq y x then 1 else 0) + cntD x ys
def idxD (x : D) : List D → Nat → Option Nat
  | [], _ => none
  | y :: ys, n => if dEq y x then some n else idxD x ys (n + 1)
abbrev PrimM := D → List D → Option (Bool × D)
def mGet : PrimM
  | .dct ks vs, [k] => if hashable k then some (false, (look k ks vs).getD .non) else none
  | .dct ks vs, [k, d] => if hashable k then some (false, (look k ks vs).getD d) else none
  | _, _ => none
def mCount : PrimM
  | .lst ds, [x] => if cmpOk x && cmpOks ds then some (false, .int (cntD x ds : Nat)) else none
  | .tup ds, [x] => if cmpOk x && cmpOks ds then some (false, .int (cntD x ds : Nat)) else none
  | _, _ => none
def mIndex : PrimM
  | .lst ds, [x] => if cmpOk x && cmpOks ds then (idxD x ds 0).map fun n => (false, .int (n : Nat)) else none
  | _, _ => none
def splitAt1 (c : Nat) : List Nat → List Nat → List D
  | [], acc => [.str acc.reverse]
  | x :: xs, acc => if x = c then .str acc.reverse :: splitAt1 c xs [] else splitAt1 c xs (x :: acc)
def mSplit : PrimM
  | .str z, [.str [c]] => if lenLe z line then some (true, .lst (splitAt1 c z [])) else none
  | _, _ => none
def joinS (sep : List Nat) : List D → Option (List Nat)
  | [] => some []
  | [.str x] => some x
  | .str x :: r => (joinS sep r).map fun y => x ++ sep ++ y
  | _ => none
def mJoin : PrimM
  | .str sep, [.lst ds] => (joinS sep ds).bind fun z => if lenLe z line then some (false, .str z) else none
  | _, _ => none
def stdM : List Mth := [⟨[5], mGet⟩, ⟨[4, 3], mCount⟩, ⟨[4], mIndex⟩, ⟨[2], mSplit⟩, ⟨[2], mJoin⟩]
end Ev

end
section
/-! Ev2: how the evaluator's data lie in the heap. -/
set_option autoImplicit false
set_option linter.all false
set_option Elab.async false
set_option maxRecDepth 100000
set_option maxHeartbeats 4000000
namespace Ev
open PySem L2

abbrev sv (x : List Nat) : Str := ⟨x.toArray⟩
abbrev Frag := PySem.W.Frag

mutual
def nk : D → NestedKey
  | .non => .none
  | .bl b => .num (b2i b)
  | .int i => .num i
  | .str x => .text (sv x)
  | .tup ds => .tup (nks ds)
  | _ => .none
def nks : List D → List NestedKey
  | [] => []
  | d :: ds => nk d :: nks ds
end
def isLeafK : D → Bool
  | .non => true | .bl _ => true | .int _ => true | .str _ => true
  | _ => false
def isTupK : D → Bool
  | .tup _ => true
  | _ => false
/-- a dict's keys: ints and texts -/
inductive KeyR : D → Key → Prop
  | int (i : Int) : KeyR (.int i) (.inl i)
  | str (x : List Nat) : KeyR (.str x) (.inr (sv x))

/-- a tuple whose object has no dict of its own -/
def TupAt (K : Frag) (H : Hp) (a : Addr) (vs : List V) : Prop := (∃ o, H a = some (.frz o (.tup vs)) ∧ o.dict = none) ∨
  ∃ (o : Obj) (its : Array Value) (n : Nat), K.lookup a = some o ∧ o.cls = .type "tuple" ∧ o.dict = none ∧ o.data = .seq its n ∧ its.size ≤ sizeLine ∧ Vals vs its.toList
theorem TupAt.sq {K : Frag} {H : Hp} {a : Addr} {vs : List V} (h : TupAt K H a vs) : SqT K H a vs := by
  rcases h with ⟨o, h, _⟩ | ⟨o, its, n, h1, h2, _, h3⟩
  · exact .inl (.inr ⟨o, h⟩)
  · exact .inr ⟨o, its, n, h1, h2, h3⟩
theorem TupAt.same {K : Frag} {H H' : Hp} {a : Addr} {vs : List V} (s : Same H H') (h : TupAt K H a vs) : TupAt K H' a vs := by
  rcases h with ⟨o, h, d⟩ | h
  · exact .inl ⟨o, s _ _ h, d⟩
  · exact .inr h

mutual
inductive Rep (K : Frag) (w : World) (H : Hp) : D → V → Prop
  | non : Rep K w H .non .non
  | bl (b : Bool) : Rep K w H (.bl b) (.bl b)
  | int (i : Int) : Rep K w H (.int i) (.int i)
  | str (x : List Nat) : Rep K w H (.str x) (.str (sv x))
  | tup {ds : List D} {a : Addr} {vs : List V} : TupAt K H a vs → Reps K w H ds vs → Rep K w H (.tup ds) (.ref a)
  | lst {ds : List D} {a : Addr} {vs : List V} : H a = some (.lst vs) → Reps K w H ds vs → Rep K w H (.lst ds) (.ref a)
  /-- a list that came from outside -/
  | set {ds : List D} {a : Addr} {vs : List V} : SqL K H a vs → Reps K w H ds vs → Rep K w H (.set ds) (.ref a)
  | dct {ks vs : List D} {a : Addr} {L : List (Key × V)} : H a = some (.dK L) → DEnts K w H ks vs L → Rep K w H (.dct ks vs) (.ref a)
inductive Reps (K : Frag) (w : World) (H : Hp) : List D → List V → Prop
  | nil : Reps K w H [] []
  | cons {d : D} {ds : List D} {v : V} {vs : List V} : Rep K w H d v → Reps K w H ds vs → Reps K w H (d :: ds) (v :: vs)
inductive DEnts (K : Frag) (w : World) (H : Hp) : List D → List D → List (Key × V) → Prop
  | nil : DEnts K w H [] [] []
  | cons {k v : D} {ks vs : List D} {key : Key} {x : V} {L : List (Key × V)} : KeyR k key → Rep K w H v x → DEnts K w H ks vs L → DEnts K w H (k :: ks) (v :: vs) ((key, x) :: L)
end

/-- the heap without the addresses of O -/
def Hm (H : Hp) (O : List Addr) : Hp := fun a => if a ∈ O then none else H a
theorem Hm_of {H : Hp} {O : List Addr} {a : Addr} {o : HO} (h : Hm H O a = some o) : a ∉ O ∧ H a = some o := by
  unfold Hm at h
  split at h
  · cases h
  · exact ⟨by assumption, h⟩
theorem Hm_at {H : Hp} {O : List Addr} {a : Addr} (h : a ∉ O) : Hm H O a = H a := by unfold Hm; rw [if_neg h]
theorem Hm_same {H : Hp} {O : List Addr} : Same (Hm H O) H := fun _ _ h => (Hm_of h).2
theorem Hm_mono {H H' : Hp} {O O' : List Addr} (s : ∀ a o, H a = some o → a ∉ O → H' a = some o) (q : ∀ a, a ∈ O' → a ∈ O ∨ H a = none) : Same (Hm H O) (Hm H' O') := fun a o h => by
  obtain ⟨n, e⟩ := Hm_of h
  rw [Hm_at fun z => ?_]
  · exact s a o e n
  · rcases q a z with y | y
    · exact n y
    · rw [y] at e; cases e
theorem Hm_ext {H H' : Hp} {O : List Addr} (s : Same H H') : Same (Hm H O) (Hm H' O) := Hm_mono (fun a o h _ => s a o h) fun a h => .inl h
theorem Hm_sub {H : Hp} {O O' : List Addr} (q : ∀ a, a ∈ O' → a ∈ O) : Same (Hm H O) (Hm H O') := Hm_mono (fun a o h _ => h) fun a h => .inl (q a h)

theorem rd_same {H H' : Hp} {a : Addr} {u : HO} (s : Same H H') (h : Rd H a u) : Rd H' a u := by
  rcases h with h | ⟨o, h⟩
  · exact .inl (s a _ h)
  · exact .inr ⟨o, s a _ h⟩
theorem sqT_same {K : Frag} {H H' : Hp} {a : Addr} {xs : List V} (s : Same H H') (h : SqT K H a xs) : SqT K H' a xs := by
  rcases h with h | h
  · exact .inl (rd_same s h)
  · exact .inr h
mutual
theorem Rep.same {K : Frag} {w : World} {H H' : Hp} (s : Same H H') : ∀ {d : D} {v : V}, Rep K w H d v → Rep K w H' d v
  | _, _, .non => .non
  | _, _, .bl b => .bl b
  | _, _, .int i => .int i
  | _, _, .str x => .str x
  | _, _, .tup h hs => .tup (h.same s) (Reps.same s hs)
  | _, _, .lst h hs => .lst (s _ _ h) (Reps.same s hs)
  | _, _, .set h hs => .set (s.seq h) (Reps.same s hs)
  | _, _, .dct h he => .dct (s _ _ h) (DEnts.same s he)
theorem Reps.same {K : Frag} {w : World} {H H' : Hp} (s : Same H H') : ∀ {ds : List D} {vs : List V}, Reps K w H ds vs → Reps K w H' ds vs
  | _, _, .nil => .nil
  | _, _, .cons h hs => .cons (Rep.same s h) (Reps.same s hs)
theorem DEnts.same {K : Frag} {w : World} {H H' : Hp} (s : Same H H') : ∀ {ks vs : List D} {L : List (Key × V)}, DEnts K w H ks vs L → DEnts K w H' ks vs L
  | _, _, _, .nil => .nil
  | _, _, _, .cons k h t => .cons k (Rep.same s h) (DEnts.same s t)
end
theorem Reps.length {K : Frag} {w : World} {H : Hp} : ∀ {ds : List D} {vs : List V}, Reps K w H ds vs → ds.length = vs.length
  | _, _, .nil => rfl
  | _, _, .cons _ t => congrArg (· + 1) (Reps.length t)
theorem Reps.get {K : Frag} {w : World} {H : Hp} : ∀ {ds : List D} {vs : List V} {i : Nat} {d : D}, Reps K w H ds vs → ds[i]? = some d → ∃ v, vs[i]? = some v ∧ Rep K w H d v
  | _, _, _, _, .nil, e => by simp at e
  | _, _, 0, _, .cons h _, e => by simp at e; subst e; exact ⟨_, rfl, h⟩
  | _, _, i + 1, d, .cons _ t, e => by
    obtain ⟨v, h1, h2⟩ := Reps.get (i := i) (d := d) t (by simpa using e)
    exact ⟨v, by simpa using h1, h2⟩
theorem Reps.getV {K : Frag} {w : World} {H : Hp} {ds : List D} {vs : List V} {i : Nat} {v : V} (h : Reps K w H ds vs) (e : vs[i]? = some v) : ∃ d, ds[i]? = some d ∧ Rep K w H d v := by
  have hi : i < ds.length := by rw [h.length]; exact (List.getElem?_eq_some_iff.mp e).1
  obtain ⟨v', h1, h2⟩ := h.get (i := i) (d := ds[i]) (by simp [hi])
  rw [e] at h1; cases h1
  exact ⟨_, by simp [hi], h2⟩
theorem Reps.append {K : Frag} {w : World} {H : Hp} : ∀ {ds es : List D} {vs us : List V}, Reps K w H ds vs → Reps K w H es us → Reps K w H (ds ++ es) (vs ++ us)
  | _, _, _, _, .nil, t => t
  | _, _, _, _, .cons h hs, t => .cons h (Reps.append hs t)
theorem Reps.one {K : Frag} {w : World} {H : Hp} {d : D} {v : V} (h : Rep K w H d v) : Reps K w H [d] [v] := .cons h .nil
theorem Reps.drop {K : Frag} {w : World} {H : Hp} : ∀ {ds : List D} {vs : List V} (n : Nat), Reps K w H ds vs → Reps K w H (ds.drop n) (vs.drop n)
  | _, _, 0, h => h
  | _, _, _ + 1, .nil => .nil
  | _, _, n + 1, .cons _ t => Reps.drop n t
theorem Reps.take {K : Frag} {w : World} {H : Hp} : ∀ {ds : List D} {vs : List V} (n : Nat), Reps K w H ds vs → Reps K w H (ds.take n) (vs.take n)
  | _, _, 0, _ => .nil
  | _, _, _ + 1, .nil => .nil
  | _, _, n + 1, .cons h t => .cons h (Reps.take n t)
theorem Reps.reverse {K : Frag} {w : World} {H : Hp} : ∀ {ds : List D} {vs : List V}, Reps K w H ds vs → Reps K w H ds.reverse vs.reverse
  | _, _, .nil => .nil
  | _, _, .cons h t => by rw [List.reverse_cons, List.reverse_cons]; exact (Reps.reverse t).append (.one h)
theorem Reps.set {K : Frag} {w : World} {H : Hp} {d : D} {v : V} (h : Rep K w H d v) : ∀ {ds : List D} {vs : List V} (i : Nat), Reps K w H ds vs → Reps K w H (ds.set i d) (vs.set i v)
  | _, _, _, .nil => .nil
  | _, _, 0, .cons _ t => .cons h t
  | _, _, i + 1, .cons q t => .cons q (Reps.set h i t)
theorem Reps.erase {K : Frag} {w : World} {H : Hp} : ∀ {ds : List D} {vs : List V} (i : Nat), Reps K w H ds vs → Reps K w H (ds.eraseIdx i) (vs.eraseIdx i)
  | _, _, _, .nil => .nil
  | _, _, 0, .cons _ t => t
  | _, _, i + 1, .cons q t => .cons q (Reps.erase i t)
theorem Reps.rep {K : Frag} {w : World} {H : Hp} {ds : List D} {vs : List V} (h : Reps K w H ds vs) : ∀ n : Nat, Reps K w H (rep n ds) (List.replicate n vs).flatten
  | 0 => .nil
  | n + 1 => by
    show Reps K w H (List.replicate (n + 1) ds).flatten (List.replicate (n + 1) vs).flatten
    rw [List.replicate_succ, List.replicate_succ, List.flatten_cons, List.flatten_cons]
    exact h.append (Reps.rep h n)

/-- no tuple stands at the addresses of O -/
def NoT (H : Hp) (O : List Addr) : Prop := ∀ a ∈ O, H a ≠ none ∧ ∀ vs, ¬ Rd H a (.tup vs)
theorem NoT.same {H H' : Hp} {O : List Addr} (n : NoT H O) (s : Same H H') : NoT H' O := fun a ha => by
  obtain ⟨h1, h2⟩ := n a ha
  cases e : H a with
  | none => exact absurd e h1
  | some o =>
    refine ⟨by rw [s a o e]; simp, fun vs h => h2 vs ?_⟩
    rcases h with h | ⟨ob, h⟩
    · rw [s a o e] at h; cases h; exact .inl e
    · rw [s a o e] at h; cases h; exact .inr ⟨ob, e⟩
mutual
/-- immutable values reach tuples alone -/
theorem Rep.imm {K : Frag} {w : World} {H : Hp} {O : List Addr} (n : NoT H O) : ∀ {d : D} {v : V}, imm d = true → Rep K w H d v → Rep K w (Hm H O) d v
  | _, _, _, .non => .non
  | _, _, _, .bl b => .bl b
  | _, _, _, .int i => .int i
  | _, _, _, .str x => .str x
  | _, _, e, .tup (a := a) h hs => by
    refine .tup ?_ (Reps.imm n (by simpa [Ev.imm] using e) hs)
    rcases h with ⟨o, h, d⟩ | h
    · have ha : a ∉ O := fun z => (n a z).2 _ (.inr ⟨o, h⟩)
      exact .inl ⟨o, by rw [Hm_at ha]; exact h, d⟩
    · exact .inr h
  | _, _, e, .lst _ _ => by simp [Ev.imm] at e
  | _, _, e, .set _ _ => by simp [Ev.imm] at e
  | _, _, e, .dct _ _ => by simp [Ev.imm] at e
theorem Reps.imm {K : Frag} {w : World} {H : Hp} {O : List Addr} (n : NoT H O) : ∀ {ds : List D} {vs : List V}, imms ds = true → Reps K w H ds vs → Reps K w (Hm H O) ds vs
  | _, _, _, .nil => .nil
  | _, _, e, .cons h hs => by
    rw [imms, Bool.and_eq_true] at e
    exact .cons (Rep.imm n e.1 h) (Reps.imm n e.2 hs)
end
theorem DEnts.imm {K : Frag} {w : World} {H : Hp} {O : List Addr} (n : NoT H O) : ∀ {ks vs : List D} {L : List (Key × V)}, imms vs = true → DEnts K w H ks vs L → DEnts K w (Hm H O) ks vs L
  | _, _, _, _, .nil => .nil
  | _, _, _, e, .cons k h t => by
    rw [imms, Bool.and_eq_true] at e
    exact .cons k (Rep.imm n e.1 h) (DEnts.imm n e.2 t)

/-- a container at b, its items stand in F -/
inductive Cont (K : Frag) (w : World) (F H : Hp) (b : Addr) : D → Prop
  | lst {ds : List D} {vs : List V} : H b = some (.lst vs) → Reps K w F ds vs → Cont K w F H b (.lst ds)
  | dct {ks vs : List D} {L : List (Key × V)} : H b = some (.dK L) → DEnts K w F ks vs L → Cont K w F H b (.dct ks vs)
theorem Cont.same {K : Frag} {w : World} {F F' H H' : Hp} {b : Addr} {d : D} (c : Cont K w F H b d) (s : Same F F') (hb : ∀ o, H b = some o → H' b = some o) : Cont K w F' H' b d := by
  cases c with
  | lst h hs => exact .lst (hb _ h) (hs.same s)
  | dct h hs => exact .dct (hb _ h) (hs.same s)
theorem Cont.rep {K : Frag} {w : World} {F H : Hp} {b : Addr} {d : D} (c : Cont K w F H b d) (s : Same F H) : Rep K w H d (.ref b) := by
  cases c with
  | lst h hs => exact .lst h (hs.same s)
  | dct h hs => exact .dct h (hs.same s)
theorem Cont.box {K : Frag} {w : World} {F H : Hp} {b : Addr} {d : D} (c : Cont K w F H b d) : isBox d = true := by cases c <;> rfl
theorem Cont.some {K : Frag} {w : World} {F H : Hp} {b : Addr} {d : D} (c : Cont K w F H b d) : ∃ o, H b = some o ∧ ∀ vs, ¬ Rd H b (.tup vs) := by
  cases c with
  | lst h hs => exact ⟨_, h, fun vs z => by rcases z with z | ⟨o, z⟩ <;> (rw [h] at z; cases z)⟩
  | dct h hs => exact ⟨_, h, fun vs z => by rcases z with z | ⟨o, z⟩ <;> (rw [h] at z; cases z)⟩
/-- immutable items stand anywhere -/
theorem Cont.imm {K : Frag} {w : World} {F H : Hp} {b : Addr} {d : D} {O : List Addr} (c : Cont K w F H b d) (s : Same F H) (n : NoT H O) (e : immIn d = true) : Cont K w (Hm H O) H b d := by
  cases c with
  | lst h hs => exact .lst h ((hs.same s).imm n e)
  | dct h hs =>
    have e : (imms _ && imms _) = true := e
    rw [Bool.and_eq_true] at e
    exact .dct h ((hs.same s).imm n e.2)

/-- what a primitive gets: a value that stands still, or a container whose items do -/
def RepC (K : Frag) (w : World) (O : List Addr) (H : Hp) (d : D) (v : V) : Prop := Rep K w (Hm H O) d v ∨ ∃ b, v = .ref b ∧ Cont K w (Hm H O) H b d
/-- what a primitive gives -/
def Out (K : Frag) (w : World) (O : List Addr) (H H' : Hp) (fresh : Bool) (d : D) (v : V) : Prop :=
  if fresh then ∃ b, v = .ref b ∧ H b = none ∧ Cont K w (Hm H' (b :: O)) H' b d else Rep K w (Hm H' O) d v
/-- a value by its flag -/
def FlR (K : Frag) (w : World) (Ob Os : List Addr) (H H' : Hp) (d : D) (v : V) : Fl → Prop
  | .st => Rep K w (Hm H' (Os ++ Ob)) d v
  | .fr => ∃ b, v = .ref b ∧ H b = none ∧ Cont K w (Hm H' (b :: (Os ++ Ob))) H' b d
  | .ow => ∃ b, v = .ref b ∧ b ∈ Os ∧ Cont K w (Hm H' (Os ++ Ob)) H' b d
  | .un => Rep K w (Hm H' Ob) d v
end Ev

end
section
/-! Ev3: states, readings, and what goes through them. -/
set_option autoImplicit false
set_option linter.all false
set_option Elab.async false
set_option maxRecDepth 100000
set_option maxHeartbeats 4000000
namespace Ev
open PySem L2

theorem none_back {H H' : Hp} (s : Same H H') {b : Addr} (h : H' b = none) : H b = none := s.free h
theorem noT_sub {H : Hp} {O O' : List Addr} (n : NoT H O) (q : ∀ a, a ∈ O' → a ∈ O) : NoT H O' := fun a h => n a (q a h)
theorem noT_cons {H : Hp} {O : List Addr} {b : Addr} (n : NoT H O) (h : ∃ o, H b = some o ∧ ∀ vs, ¬ Rd H b (.tup vs)) : NoT H (b :: O) := fun a ha => by
  rcases List.mem_cons.mp ha with e | ha
  · subst e
    obtain ⟨o, e, q⟩ := h
    exact ⟨by rw [e]; simp, q⟩
  · exact n a ha
theorem noT_out {H : Hp} {O : List Addr} (n : NoT H O) {b : Addr} (h : H b = none) : b ∉ O := fun z => (n b z).1 h

section
variable {K : Frag} {w : World} {Ob Os : List Addr} {H H' H'' : Hp} {d : D} {v : V}

/-- a fresh container, seen as a value -/
theorem Cont.fresh {O : List Addr} {b : Addr} (c : Cont K w (Hm H' (b :: O)) H' b d) (n : b ∉ O) : Rep K w (Hm H' O) d (.ref b) :=
  (c.same (H' := Hm H' O) (Hm_sub fun a h => List.mem_cons_of_mem _ h) fun o e => by rw [Hm_at n]; exact e).rep fun _ _ z => z

theorem Out.fl {fresh u : Bool} (n : NoT H (Os ++ Ob)) (s : Same H H') (h : Out K w (if u then Ob else Os ++ Ob) H H' fresh d v) : FlR K w Ob Os H H' d v (outFl u fresh d) := by
  have n' : NoT H' (Os ++ Ob) := n.same s
  have nb : NoT H Ob := noT_sub n fun a h => List.mem_append_right _ h
  cases u with
  | false =>
    cases fresh with
    | false => exact h
    | true => exact h
  | true =>
    cases fresh with
    | false =>
      have h : Rep K w (Hm H' Ob) d v := h
      unfold outFl
      rw [if_pos rfl]
      cases e : imm d with
      | true => exact (h.same Hm_same).imm n' e
      | false => exact h
    | true =>
      obtain ⟨b, e, hb, c⟩ : ∃ b, v = .ref b ∧ H b = none ∧ Cont K w (Hm H' (b :: Ob)) H' b d := h
      unfold outFl
      rw [if_pos rfl]
      have e0 : imm d = false := by cases c <;> rfl
      rw [if_neg (by rw [e0]; simp)]
      cases e1 : immIn d with
      | true =>
        refine ⟨b, e, hb, c.imm Hm_same (noT_cons n' c.some) e1⟩
      | false =>
        subst e
        exact c.fresh (noT_out nb hb)

theorem FlR.same {f : Fl} (h : FlR K w Ob Os H H' d v f) (s : Same H' H'') : FlR K w Ob Os H H'' d v f := by
  cases f with
  | st => exact Rep.same (Hm_ext s) h
  | fr =>
    obtain ⟨b, e, hb, c⟩ := h
    exact ⟨b, e, hb, c.same (Hm_ext s) fun o z => s _ _ z⟩
  | ow =>
    obtain ⟨b, e, hb, c⟩ := h
    exact ⟨b, e, hb, c.same (Hm_ext s) fun o z => s _ _ z⟩
  | un => exact Rep.same (Hm_ext s) h
theorem FlR.base {f : Fl} {H0 : Hp} (h : FlR K w Ob Os H H' d v f) (s : Same H0 H) : FlR K w Ob Os H0 H' d v f := by
  cases f with
  | st => exact h
  | fr =>
    obtain ⟨b, e, hb, c⟩ := h
    exact ⟨b, e, s.free hb, c⟩
  | ow => exact h
  | un => exact h
/-- it stands as a value in the whole heap -/
theorem FlR.rep {f : Fl} (h : FlR K w Ob Os H H' d v f) : Rep K w H' d v := by
  cases f with
  | st => exact Rep.same Hm_same h
  | fr =>
    obtain ⟨b, rfl, hb, c⟩ := h
    exact c.rep Hm_same
  | ow =>
    obtain ⟨b, rfl, hb, c⟩ := h
    exact c.rep Hm_same
  | un => exact Rep.same Hm_same h
theorem FlR.repC {f : Fl} {u : Bool} (n : NoT H (Os ++ Ob)) (s : Same H H') (h : FlR K w Ob Os H H' d v f) (hu : f.isUn = true → u = true) : RepC K w (if u then Ob else Os ++ Ob) H' d v := by
  have sub : ∀ a, a ∈ (if u = true then Ob else Os ++ Ob) → a ∈ Os ++ Ob := fun a h => by
    cases u with
    | true => exact List.mem_append_right _ h
    | false => exact h
  cases f with
  | st => exact .inl (Rep.same (Hm_sub sub) h)
  | fr =>
    obtain ⟨b, rfl, hb, c⟩ := h
    refine .inr ⟨b, rfl, c.same (Hm_sub fun a h => List.mem_cons_of_mem _ (sub a h)) fun o z => z⟩
  | ow =>
    obtain ⟨b, rfl, hb, c⟩ := h
    exact .inr ⟨b, rfl, c.same (Hm_sub sub) fun o z => z⟩
  | un =>
    have e := hu rfl
    subst e
    exact .inl h
theorem FlR.still {f : Fl} (n : NoT H (Os ++ Ob)) (s : Same H H') (h : FlR K w Ob Os H H' d v f) (e : f.still d = true) : Rep K w (Hm H' (Os ++ Ob)) d v := by
  cases f with
  | st => exact h
  | fr =>
    obtain ⟨b, rfl, hb, c⟩ := h
    exact c.fresh (noT_out n hb)
  | ow => exact h.rep.imm (n.same s) e
  | un => exact h.rep.imm (n.same s) e
/-- whatever it is, it does not reach the outer frames' own objects -/
theorem FlR.outer {f : Fl} (n : NoT H (Os ++ Ob)) (hd : ∀ a, a ∈ Os → a ∉ Ob) (h : FlR K w Ob Os H H' d v f) : Rep K w (Hm H' Ob) d v := by
  have sub : ∀ a, a ∈ Ob → a ∈ Os ++ Ob := fun a h => List.mem_append_right _ h
  cases f with
  | st => exact Rep.same (Hm_sub sub) h
  | fr =>
    obtain ⟨b, rfl, hb, c⟩ := h
    exact Rep.same (Hm_sub sub) (c.fresh (noT_out n hb))
  | ow =>
    obtain ⟨b, rfl, hb, c⟩ := h
    exact (c.same (F' := Hm H' Ob) (H' := Hm H' Ob) (Hm_sub sub) fun o z => by rw [Hm_at (hd b hb)]; exact z).rep fun _ _ z => z
  | un => exact h
theorem RepC.rep {O : List Addr} (h : RepC K w O H d v) : Rep K w H d v := by
  rcases h with h | ⟨b, rfl, c⟩
  · exact Rep.same Hm_same h
  · exact c.rep Hm_same
end

/-! ### states -/
def SlotR (K : Frag) (w : World) (Ob Os : List Addr) (H : Hp) (d : D) (v : V) : Sf → Prop
  | .fz => Rep K w (Hm H (Os ++ Ob)) d v
  | _ => ∃ b, v = .ref b ∧ b ∈ Os ∧ Cont K w (Hm H (Os ++ Ob)) H b d
structure StRel (K : Frag) (w : World) (Ob Os : List Addr) (env : Env) (σ : L2.St) (H : Hp) : Prop where
  len : env.length = σ.length
  slot : ∀ (i : Nat) (sf : Sf) (d : D), env[i]? = some (some (sf, d)) → ∃ v, σ[i]? = some (some v) ∧ SlotR K w Ob Os H d v sf
  inj : ∀ (i j : Nat) (sf sg : Sf) (d e : D) (b : Addr), env[i]? = some (some (sf, d)) → env[j]? = some (some (sg, e)) → sf ≠ .fz → sg ≠ .fz → σ[i]? = some (some (.ref b)) → σ[j]? = some (some (.ref b)) → i = j
  noT : NoT H (Os ++ Ob)
  dj : ∀ a, a ∈ Os → a ∉ Ob
section
variable {K : Frag} {w : World} {Ob Os : List Addr} {env : Env} {σ : L2.St} {H H' : Hp}
theorem SlotR.same {d : D} {v : V} {sf : Sf} (h : SlotR K w Ob Os H d v sf) (s : Same H H') : SlotR K w Ob Os H' d v sf := by
  cases sf with
  | fz => exact Rep.same (Hm_ext s) h
  | ow =>
    obtain ⟨b, e, hb, c⟩ := h
    exact ⟨b, e, hb, c.same (Hm_ext s) fun o z => s _ _ z⟩
theorem StRel.same (S : StRel K w Ob Os env σ H) (s : Same H H') : StRel K w Ob Os env σ H' where
  len := S.len
  slot := fun i sf d e => let ⟨v, h1, h2⟩ := S.slot i sf d e; ⟨v, h1, h2.same s⟩
  inj := S.inj
  noT := S.noT.same s
  dj := S.dj
end

/-! ### exceptions -/
structure XT where
  addr : Nat → Option Addr
  flds : Nat → List Str
def XRel (K : Frag) (w : World) (xt : XT) (H : Hp) (c : Nat) (p : List D) (cls : Value) (dx : Option Addr) : Prop :=
  ∃ C, xt.addr c = some C ∧ cls = .ref C ∧ ((xt.flds c = [] ∧ dx = none) ∨ ∃ a vs, xt.flds c ≠ [] ∧ dx = some a ∧ H a = some (.xd ((xt.flds c).zip vs)) ∧ vs.length = (xt.flds c).length ∧ Reps K w H p vs)

/-! ### readings -/
def MPost {α : Type} (m : M α) (okP : α → Prop) (exP : Nat → List D → Prop) : Prop := match m with
  | some (.ok a) => okP a
  | some (.ex c p) => exP c p
  | none => False
theorem MPost.bind {α β : Type} {m : M α} {f : α → M β} {okP : β → Prop} {exP : Nat → List D → Prop} (h : MPost (m.bind f) okP exP) : MPost m (fun a => MPost (f a) okP exP) exP := by
  cases m with
  | none => exact h
  | some r =>
    cases r with
    | ok a => exact h
    | ex c p => exact h
theorem MPost.imp {α : Type} {m : M α} {okP okP' : α → Prop} {exP exP' : Nat → List D → Prop} (h : MPost m okP exP) (h1 : ∀ a, okP a → okP' a) (h2 : ∀ c p, exP c p → exP' c p) : MPost m okP' exP' := by
  cases m with
  | none => exact h
  | some r =>
    cases r with
    | ok a => exact h1 _ h
    | ex c p => exact h2 _ _ h

/-- what all readings hang on -/
structure Lg where
  K : Frag
  w : World
  T : Tb
  cl : Call
  xt : XT
variable (G : Lg)
def XP (W : WX) (σ : L2.St) (H : Hp) (c : Nat) (p : List D) : Prop := ∀ cls dx H', Same H H' → XRel G.K G.w G.xt H' c p cls dx → W cls dx σ H'
theorem XP.same {W : WX} {σ : L2.St} {H H' : Hp} {c : Nat} {p : List D} (h : XP G W σ H c p) (s : Same H H') : XP G W σ H' c p := fun cls dx H1 s1 x => h cls dx H1 (s.trans s1) x
/-- a result that comes to Q -/
def Fin (W : WX) (Ob Os : List Addr) (σ : L2.St) (H : Hp) (m : M (Fl × D)) (Q : VK) : Prop :=
  MPost m (fun r => ∀ v H', Same H H' → FlR G.K G.w Ob Os H H' r.2 v r.1 → Q v H') (XP G W σ H)
def tE (W : WX) (c : CE) : TE := fun σ H Q => ∃ Ob Os env, StRel G.K G.w Ob Os env σ H ∧ Fin G W Ob Os σ H (evE G.T G.cl env c) Q
def FlRs (Ob Os : List Addr) (H H' : Hp) : List (Fl × D) → List V → Prop := fun rs vs => Paired (fun (r : Fl × D) v => FlR G.K G.w Ob Os H H' r.2 v r.1) rs vs
def tA (W : WX) (cs : CEs) : TA := fun σ H Q => ∃ Ob Os env, StRel G.K G.w Ob Os env σ H ∧ MPost (evEs G.T G.cl env cs) (fun rs => ∀ vs H', Same H H' → FlRs G Ob Os H H' rs vs → Q vs H') (XP G W σ H)
def tT (W : WX) (c : CE) : TT := fun σ H Q => ∃ Ob Os env, StRel G.K G.w Ob Os env σ H ∧ MPost ((evE G.T G.cl env c).bind fun x => liftM (truth x.2)) (fun b => ∀ H', Same H H' → Q b H') (XP G W σ H)
/-- several tests -/
def tTs (W : WX) (cs : CEs) : TT := fun σ H Q => ∃ Ob Os env, StRel G.K G.w Ob Os env σ H ∧ MPost (evTs G.T G.cl env cs) (fun b => ∀ H', Same H H' → Q b H') (XP G W σ H)
end Ev

namespace L2
open PySem
theorem PE.weak {X : Cx} {e : Expr} {t t' : TE} (h : PE X e t) (q : ∀ σ H Q, t' σ H Q → t σ H Q) : PE X e t' := ⟨fun pins s σ H Q I hw => h.run pins s σ H Q I (q σ H Q hw)⟩
theorem PT.weak {X : Cx} {e : Expr} {t t' : TT} (h : PT X e t) (q : ∀ σ H Q, t' σ H Q → t σ H Q) : PT X e t' := ⟨fun pins s σ H Q I hw => h.run pins s σ H Q I (q σ H Q hw)⟩
theorem PW.weak {X : Cx} {e : Expr} {t t' : TT} (h : PW X e t) (q : ∀ σ H Q, t' σ H Q → t σ H Q) : PW X e t' := ⟨fun wh pins s σ H Q I hw => h.run wh pins s σ H Q I (q σ H Q hw)⟩
theorem PA.weak {X : Cx} {es : List Expr} {t t' : TA} (h : PA X es t) (q : ∀ σ H Q, t' σ H Q → t σ H Q) : PA X es t' := ⟨fun pos pins s σ H Q I hw => h.run pos pins s σ H Q I (q σ H Q hw)⟩
theorem PS.weak {X : Cx} {e : Stmt} {t t' : TS} (h : PS X e t) (q : ∀ D σ H, t' D σ H → t D σ H) : PS X e t' := ⟨fun pins s σ H D I hw => h.run pins s σ H D I (q D σ H hw)⟩
theorem PSs.weak {X : Cx} {e : List Stmt} {t t' : TS} (h : PSs X e t) (q : ∀ D σ H, t' D σ H → t D σ H) : PSs X e t' := ⟨fun pins s σ H D I hw => h.run pins s σ H D I (q D σ H hw)⟩
theorem PTs.weak {X : Cx} {es : List Expr} {t t' : TT} (h : PTs X es t) (q : ∀ σ H Q, t' σ H Q → t σ H Q) : PTs X es t' := ⟨fun pins s σ H Q I hw => h.run pins s σ H Q I (q σ H Q hw)⟩
end L2

end
section
/-! Ev4: the forms of expressions, one by one. -/
set_option autoImplicit false
set_option linter.all false
set_option Elab.async false
set_option maxRecDepth 100000
set_option maxHeartbeats 4000000
namespace Ev
open PySem PySem.Spec PyProof.Rows L2

theorem lenLe_le {α : Type} : ∀ {l : List α} {n : Nat}, lenLe l n = true → l.length ≤ n
  | [], _, _ => Nat.zero_le _
  | _ :: _, 0, h => by simp [lenLe] at h
  | _ :: r, n + 1, h => Nat.succ_le_succ (lenLe_le (l := r) (by simpa [lenLe] using h))
theorem line_eq : line = sizeLine := by rw [sizeLine_eq]; rfl
theorem lenLe_size {α : Type} {l : List α} (h : lenLe l line = true) : l.length ≤ sizeLine := by rw [← line_eq]; exact lenLe_le h
theorem sv_length (x : List Nat) : (sv x).length = x.length := by
  show x.toArray.size = _
  simp

/-- lists of flagged values by place -/
theorem FlRs.same {G : Lg} {Ob Os : List Addr} {H H' H'' : Hp} {rs : List (Fl × D)} {vs : List V} (h : FlRs G Ob Os H H' rs vs) (s : Same H' H'') : FlRs G Ob Os H H'' rs vs :=
  Paired.mapP h fun _ _ z => z.same s
theorem FlRs.base {G : Lg} {Ob Os : List Addr} {H H' H0 : Hp} {rs : List (Fl × D)} {vs : List V} (h : FlRs G Ob Os H H' rs vs) (s : Same H0 H) : FlRs G Ob Os H0 H' rs vs :=
  Paired.mapP h fun _ _ z => z.base s
/-- several of them as a primitive's arguments -/
def RepCs (K : Frag) (w : World) (O : List Addr) (H : Hp) : List D → List V → Prop := Paired (RepC K w O H)
theorem FlRs.repC {G : Lg} {Ob Os : List Addr} {H H' : Hp} {u : Bool} (n : NoT H (Os ++ Ob)) (s : Same H H') : ∀ {rs : List (Fl × D)} {vs : List V}, FlRs G Ob Os H H' rs vs → (anyUn (fls rs) = true → u = true) → RepCs G.K G.w (if u then Ob else Os ++ Ob) H' (Ev.vals rs) vs
  | _, _, .nil, _ => .nil
  | _, _, .cons (a := r) (l₁ := rs) h t, hu => by
    refine .cons (h.repC n s fun e => hu ?_) (FlRs.repC n s t fun e => hu ?_)
    · show (r.1.isUn || anyUn (fls rs)) = true
      rw [e]; rfl
    · show (r.1.isUn || anyUn (fls rs)) = true
      rw [e]; simp
theorem FlRs.still {G : Lg} {Ob Os : List Addr} {H H' : Hp} (n : NoT H (Os ++ Ob)) (s : Same H H') : ∀ {rs : List (Fl × D)} {vs : List V}, FlRs G Ob Os H H' rs vs → stills rs = true → Reps G.K G.w (Hm H' (Os ++ Ob)) (Ev.vals rs) vs
  | _, _, .nil, _ => .nil
  | _, _, .cons (a := r) (l₁ := rs) h t, e => by
    have e : (r.1.still r.2 && stills rs) = true := e
    rw [Bool.and_eq_true] at e
    exact .cons (h.still n s e.1) (FlRs.still n s t e.2)
theorem FlRs.outer {G : Lg} {Ob Os : List Addr} {H H' : Hp} (n : NoT H (Os ++ Ob)) (hd : ∀ a, a ∈ Os → a ∉ Ob) : ∀ {rs : List (Fl × D)} {vs : List V}, FlRs G Ob Os H H' rs vs → Reps G.K G.w (Hm H' Ob) (Ev.vals rs) vs
  | _, _, .nil => .nil
  | _, _, .cons h t => .cons (h.outer n hd) (FlRs.outer n hd t)

/-! ### primitives' readings -/
def rB (K : Frag) (w : World) (f : D → D → Option (Bool × D)) : R2 := fun x y H Q => ∃ O d1 d2 fr d, NoT H O ∧ RepC K w O H d1 x ∧ RepC K w O H d2 y ∧ f d1 d2 = some (fr, d) ∧ ∀ v H', Same H H' → Out K w O H H' fr d v → Q v H'
def rC2 (K : Frag) (w : World) (f : D → D → Option Bool) : R2 := fun x y H Q => ∃ O d1 d2 c, NoT H O ∧ RepC K w O H d1 x ∧ RepC K w O H d2 y ∧ f d1 d2 = some c ∧ ∀ H', Same H H' → Q (.bl c) H'
def rP (K : Frag) (w : World) (p : Prim) : List V → Hp → VK → Prop := fun xs H Q => ∃ O ds fr d, NoT H O ∧ RepCs K w O H ds xs ∧ p ds = some (fr, d) ∧ ∀ v H', Same H H' → Out K w O H H' fr d v → Q v H'
def rM (K : Frag) (w : World) (p : PrimM) : V → List V → Hp → VK → Prop := fun x xs H Q => ∃ O d0 ds fr d, NoT H O ∧ RepC K w O H d0 x ∧ RepCs K w O H ds xs ∧ p d0 ds = some (fr, d) ∧ ∀ v H', Same H H' → Out K w O H H' fr d v → Q v H'

section
variable {G : Lg} {X : Cx} {W : WX}

theorem st_int {K : Frag} {w : World} {Ob Os : List Addr} {H H' : Hp} (i : Int) : FlR K w Ob Os H H' (.int i) (.int i) .st := Rep.int i
theorem st_bl {K : Frag} {w : World} {Ob Os : List Addr} {H H' : Hp} (b : Bool) : FlR K w Ob Os H H' (.bl b) (.bl b) .st := Rep.bl b

theorem e_var {i : Nat} {x : Str} {pos : Pos} (hN : X.N[i]? = some x) (hv : Vis X.env.scope x) (hd : (x == ("__debug__" : Str)) = false) (hcd : (x == ("__classdict__" : Str)) = false) : PE X (.Name x pos) (tE G W (.var i)) := by
  refine (pe_var hN hv hd hcd).weak fun σ H Q ⟨Ob, Os, env, S, h⟩ => ?_
  unfold Fin at h
  rw [evE] at h
  unfold getS at h
  cases e : env[i]? with
  | none => rw [e] at h; exact h.elim
  | some o =>
    rw [e] at h
    cases o with
    | none => exact h.elim
    | some p =>
      obtain ⟨sf, d⟩ := p
      obtain ⟨v, hs, r⟩ := S.slot i sf d e
      refine ⟨v, hs, ?_⟩
      cases sf with
      | fz => exact h v H (Same.refl H) r
      | ow => exact h v H (Same.refl H) r

theorem e_const {d : D} {v : V} {e : Expr} (hr : ∀ H, Rep G.K G.w H d v) (he : PE X e (tC v)) : PE X e (tE G W (.con d)) := by
  refine he.weak fun σ H Q ⟨Ob, Os, env, S, h⟩ => ?_
  unfold Fin at h
  rw [evE] at h
  exact h v H (Same.refl H) (hr _)
theorem e_glob {k : Nat} {d : D} {v : V} {e : Expr} (hk : G.T.con[k]? = some d) (hr : ∀ H, Rep G.K G.w H d v) (he : PE X e (tC v)) : PE X e (tE G W (.glob k)) := by
  refine he.weak fun σ H Q ⟨Ob, Os, env, S, h⟩ => ?_
  unfold Fin at h
  rw [evE, hk] at h
  exact h v H (Same.refl H) (hr _)

/-- two subexpressions in a row -/
theorem two {Ob Os : List Addr} {env : Env} {σ : L2.St} {H : Hp} {a b : CE} {α : Type} {f : Fl × D → Fl × D → M α} {okP : α → Prop} {R : V → V → Hp → Prop} (S : StRel G.K G.w Ob Os env σ H)
    (h : MPost ((evE G.T G.cl env a).bind fun x => (evE G.T G.cl env b).bind fun y => f x y) okP (XP G W σ H))
    (q : ∀ x y vx vy H', Same H H' → FlR G.K G.w Ob Os H H' x.2 vx x.1 → FlR G.K G.w Ob Os H H' y.2 vy y.1 → MPost (f x y) okP (XP G W σ H) → R vx vy H') :
    tE G W a σ H fun vx H1 => tE G W b σ H1 fun vy H2 => R vx vy H2 := by
  refine ⟨Ob, Os, env, S, MPost.imp (MPost.bind h) (fun x hx vx H1 s1 r1 => ?_) fun c p z => z⟩
  refine ⟨Ob, Os, env, S.same s1, MPost.imp (MPost.bind hx) (fun y hy vy H2 s2 r2 => ?_) fun c p z => XP.same G z s1⟩
  exact q x y vx vy H2 (s1.trans s2) (r1.same s2) (r2.base s1) hy

theorem e_bin {o : BOp} {op : Operator} {a b : CE} {ea eb : Expr} {pos : Pos} (ho : OpR X (binaryOp op) (rB G.K G.w (evBin o))) (ha : PE X ea (tE G W a)) (hb : PE X eb (tE G W b)) : PE X (.BinOp ea op eb pos) (tE G W (.bin o a b)) := by
  refine (pe_op ho ha hb).weak fun σ H Q ⟨Ob, Os, env, S, h⟩ => ?_
  unfold Fin at h
  rw [evE] at h
  refine two S h fun x y vx vy H' s rx ry hq => ?_
  cases e : evBin o x.2 y.2 with
  | none => rw [e] at hq; exact hq.elim
  | some r =>
    obtain ⟨fr, d⟩ := r
    rw [e] at hq
    refine ⟨_, x.2, y.2, fr, d, ?_, rx.repC (u := x.1.isUn || y.1.isUn) S.noT s (fun z => by rw [z]; rfl), ry.repC (u := x.1.isUn || y.1.isUn) S.noT s (fun z => by rw [z]; simp), e, fun v H'' s2 ho => hq v H'' (s.trans s2) ?_⟩
    · refine noT_sub (S.noT.same s) fun a h => ?_
      split at h
      · exact List.mem_append_right _ h
      · exact h
    · exact (Out.fl (S.noT.same s) s2 ho).base s

theorem e_cmp {o : COp} {op : CmpOp} {a b : CE} {ea eb : Expr} {pos : Pos} (ho : OpR X (compareOp op) (rC2 G.K G.w (evCmp o))) (ha : PE X ea (tE G W a)) (hb : PE X eb (tE G W b)) (hm : behindInMarks op eb = false) : PE X (.Compare ea [op] [eb] pos) (tE G W (.cmp o a b)) := by
  refine (pe_cmpR ho ha hb hm).weak fun σ H Q ⟨Ob, Os, env, S, h⟩ => ?_
  unfold Fin at h
  rw [evE] at h
  refine two S h fun x y vx vy H' s rx ry hq => ?_
  cases e : evCmp o x.2 y.2 with
  | none => rw [e] at hq; exact hq.elim
  | some c =>
    rw [e] at hq
    refine ⟨_, x.2, y.2, c, ?_, rx.repC (u := x.1.isUn || y.1.isUn) S.noT s (fun z => by rw [z]; rfl), ry.repC (u := x.1.isUn || y.1.isUn) S.noT s (fun z => by rw [z]; simp), e, fun H'' s2 => hq _ H'' (s.trans s2) (st_bl c)⟩
    refine noT_sub (S.noT.same s) fun a h => ?_
    split at h
    · exact List.mem_append_right _ h
    · exact h
theorem noT_ite {Ob Os : List Addr} {H : Hp} (u : Bool) (n : NoT H (Os ++ Ob)) : NoT H (if u = true then Ob else Os ++ Ob) := noT_sub n fun a h => by
  split at h
  · exact List.mem_append_right _ h
  · exact h
theorem e_idx {a b : CE} {ea eb : Expr} {pos : Pos} (ho : IxR X (rB G.K G.w fun x y => (evIdx x y).map fun d => (false, d))) (ha : PE X ea (tE G W a)) (hb : PE X eb (tE G W b)) (hs : PlainIx eb) : PE X (.Subscript ea eb pos) (tE G W (.idx a b)) := by
  refine (pe_ix ho ha hb hs).weak fun σ H Q ⟨Ob, Os, env, S, h⟩ => ?_
  unfold Fin at h
  rw [evE] at h
  refine two S h fun x y vx vy H' s rx ry hq => ?_
  cases e : evIdx x.2 y.2 with
  | none => rw [e] at hq; exact hq.elim
  | some d =>
    rw [e] at hq
    exact ⟨_, x.2, y.2, false, d, noT_ite _ (S.noT.same s), rx.repC (u := x.1.isUn || y.1.isUn) S.noT s (fun z => by rw [z]; rfl), ry.repC (u := x.1.isUn || y.1.isUn) S.noT s (fun z => by rw [z]; simp), by simp only [e]; rfl,
      fun v H'' s2 ho => hq v H'' (s.trans s2) ((Out.fl (S.noT.same s) s2 ho).base s)⟩

/-- one subexpression -/
theorem one {Ob Os : List Addr} {env : Env} {σ : L2.St} {H : Hp} {a : CE} {α : Type} {f : Fl × D → M α} {okP : α → Prop} {R : V → Hp → Prop} (S : StRel G.K G.w Ob Os env σ H)
    (h : MPost ((evE G.T G.cl env a).bind f) okP (XP G W σ H))
    (q : ∀ x vx H', Same H H' → FlR G.K G.w Ob Os H H' x.2 vx x.1 → MPost (f x) okP (XP G W σ H) → R vx H') : tE G W a σ H R :=
  ⟨Ob, Os, env, S, MPost.imp (MPost.bind h) (fun x hx vx H1 s1 r1 => q x vx H1 s1 r1 hx) fun c p z => z⟩

theorem e_neg {a : CE} {ea : Expr} {pos : Pos} (ha : PE X ea (tE G W a)) : PE X (.UnaryOp .USub ea pos) (tE G W (.neg a)) := by
  refine (pe_un un_neg ha).weak fun σ H Q ⟨Ob, Os, env, S, h⟩ => ?_
  unfold Fin at h
  rw [evE] at h
  refine one S h fun x vx H' s rx hq => ?_
  obtain ⟨f, d⟩ := x
  cases d with
  | int i =>
    cases rx.rep
    exact ⟨i, rfl, hq _ H' s (st_int _)⟩
  | _ => exact hq.elim

/-! ### truth -/
def TruD (K : Frag) (w : World) (x : V) (H : Hp) (k : Bool) : Prop := ∃ d, Rep K w H d x ∧ truth d = some k
theorem TruD.tru {K : Frag} {w : World} {x : V} {H : Hp} {k : Bool} (h : TruD K w x H k) : TruV K x H k := by
  obtain ⟨d, r, e⟩ := h
  cases r with
  | non => cases e; rfl
  | bl b => cases e; rfl
  | int i => cases e; rfl
  | str z =>
    have e : (if lenLe z line = true then some (!z.isEmpty) else none) = some k := e
    split at e
    · rename_i hz
      cases e
      refine ⟨by rw [sv_length]; exact lenLe_size hz, ?_⟩
      rw [sv_length]
      cases z <;> simp <;> omega
    · cases e
  | tup hs hr =>
    cases e
    exact .inr (.inl ⟨_, hs.sq, by cases hr <;> rfl⟩)
  | lst hs hr =>
    cases e
    exact .inl ⟨_, SqL.of hs, by cases hr <;> rfl⟩
  | set _ _ => cases e
  | dct _ _ => cases e

theorem t_plain {a : CE} {ea : Expr} (ha : PE X ea (tE G W a)) (he : ∀ whole, isTrue ea X.env whole = (do let v ← whole; standAt ea.pos; holding [v] (truthy v))) (hK : X.K = G.K) : PT X ea (tT G W a) := by
  refine (pt_truth ha he).weak fun σ H Q ⟨Ob, Os, env, S, h⟩ => ?_
  refine one S h fun x vx H' s rx hq => ?_
  cases e : truth x.2 with
  | none => rw [e] at hq; exact hq.elim
  | some b =>
    rw [e] at hq
    refine ⟨b, ?_, hq H' s⟩
    rw [hK]
    exact TruD.tru ⟨x.2, rx.rep, e⟩
theorem e_not {a : CE} {ea : Expr} {pos : Pos} (ha : PE X ea (tE G W a)) (hK : X.K = G.K) : PE X (.UnaryOp .Not ea pos) (tE G W (.not a)) := by
  refine (pe_notT ha).weak fun σ H Q ⟨Ob, Os, env, S, h⟩ => ?_
  unfold Fin at h
  rw [evE] at h
  refine one S h fun x vx H' s rx hq => ?_
  cases e : truth x.2 with
  | none => rw [e] at hq; exact hq.elim
  | some b =>
    rw [e] at hq
    refine ⟨b, ?_, hq _ H' s (st_bl _)⟩
    rw [hK]
    exact TruD.tru ⟨x.2, rx.rep, e⟩
theorem t_not {a : CE} {ea : Expr} {pos : Pos} (ha : PT X ea (tT G W a)) : PT X (.UnaryOp .Not ea pos) (tT G W (.not a)) := by
  refine (pt_not ha).weak fun σ H Q ⟨Ob, Os, env, S, h⟩ => ?_
  refine ⟨Ob, Os, env, S, ?_⟩
  rw [evE] at h
  cases e : evE G.T G.cl env a with
  | none => rw [e] at h; exact h.elim
  | some r =>
    rw [e] at h
    cases r with
    | ex c p => exact h
    | ok x =>
      simp only [M.bind_ok] at h ⊢
      cases e2 : truth x.2 with
      | none => rw [e2] at h; exact h.elim
      | some b =>
        rw [e2] at h
        exact fun H' s => h H' s
/-- and, or: the head has been asked -/
def tAndL (W : WX) (as : CEs) : TE := fun σ H Q => ∃ Ob Os env, StRel G.K G.w Ob Os env σ H ∧ ∃ a r, as = .cons a r ∧ Fin G W Ob Os σ H ((evE G.T G.cl env a).bind fun y => evAnd G.T G.cl env y r) Q
def tOrL (W : WX) (as : CEs) : TE := fun σ H Q => ∃ Ob Os env, StRel G.K G.w Ob Os env σ H ∧ ∃ a r, as = .cons a r ∧ Fin G W Ob Os σ H ((evE G.T G.cl env a).bind fun y => evOr G.T G.cl env y r) Q
theorem e_and1 {a : CE} {ea : Expr} {pos : Pos} (ha : PE X ea (tE G W a)) : PE X (.BoolOp .And [ea] pos) (tAndL (G := G) W (.cons a .nil)) := by
  refine (pe_one ha).weak fun σ H Q ⟨Ob, Os, env, S, a', r', e, h⟩ => ?_
  cases e
  unfold Fin at h
  refine one S h fun x vx H' s rx hq => ?_
  rw [evAnd] at hq
  exact hq vx H' s rx
theorem e_or1 {a : CE} {ea : Expr} {pos : Pos} (ha : PE X ea (tE G W a)) : PE X (.BoolOp .Or [ea] pos) (tOrL (G := G) W (.cons a .nil)) := by
  refine (pe_one ha).weak fun σ H Q ⟨Ob, Os, env, S, a', r', e, h⟩ => ?_
  cases e
  unfold Fin at h
  refine one S h fun x vx H' s rx hq => ?_
  rw [evOr] at hq
  exact hq vx H' s rx
theorem Fin.back {Ob Os : List Addr} {σ : L2.St} {H H' : Hp} {m : M (Fl × D)} {Q : VK} (h : Fin G W Ob Os σ H m Q) (s : Same H H') : Fin G W Ob Os σ H' m Q :=
  MPost.imp h (fun r hr v H2 s2 rv => hr v H2 (s.trans s2) (rv.base s)) fun c p z => XP.same G z s
theorem e_andc {a : CE} {as : CEs} {ea eb : Expr} {rest : List Expr} {pos : Pos} (hK : X.K = G.K) (ha : PE X ea (tE G W a)) (hb : PE X (.BoolOp .And (eb :: rest) pos) (tAndL (G := G) W as)) (hne : ∃ b r, as = .cons b r) : PE X (.BoolOp .And (ea :: eb :: rest) pos) (tAndL (G := G) W (.cons a as)) := by
  refine (pe_andT ha hb).weak fun σ H Q ⟨Ob, Os, env, S, a', r', e, h⟩ => ?_
  cases e
  obtain ⟨b, r, rfl⟩ := hne
  unfold Fin at h
  refine one S h fun x vx H' s rx hq => ?_
  rw [evAnd] at hq
  cases e : truth x.2 with
  | none => rw [e] at hq; exact hq.elim
  | some k =>
    rw [e] at hq
    refine ⟨k, by rw [hK]; exact TruD.tru ⟨x.2, rx.rep, e⟩, ?_⟩
    cases k with
    | true => exact ite_tt ⟨Ob, Os, env, S.same s, b, r, rfl, Fin.back hq s⟩
    | false => exact ite_ff (hq vx H' s rx)
theorem e_orc {a : CE} {as : CEs} {ea eb : Expr} {rest : List Expr} {pos : Pos} (hK : X.K = G.K) (ha : PE X ea (tE G W a)) (hb : PE X (.BoolOp .Or (eb :: rest) pos) (tOrL (G := G) W as)) (hne : ∃ b r, as = .cons b r) : PE X (.BoolOp .Or (ea :: eb :: rest) pos) (tOrL (G := G) W (.cons a as)) := by
  refine (pe_orT ha hb).weak fun σ H Q ⟨Ob, Os, env, S, a', r', e, h⟩ => ?_
  cases e
  obtain ⟨b, r, rfl⟩ := hne
  unfold Fin at h
  refine one S h fun x vx H' s rx hq => ?_
  rw [evOr] at hq
  cases e : truth x.2 with
  | none => rw [e] at hq; exact hq.elim
  | some k =>
    rw [e] at hq
    refine ⟨k, by rw [hK]; exact TruD.tru ⟨x.2, rx.rep, e⟩, ?_⟩
    cases k with
    | false => exact ite_ff ⟨Ob, Os, env, S.same s, b, r, rfl, Fin.back hq s⟩
    | true => exact ite_tt (hq vx H' s rx)
theorem e_and {a : CE} {as : CEs} {e : Expr} (h : PE X e (tAndL (G := G) W (.cons a as))) : PE X e (tE G W (.and a as)) := h.weak fun σ H Q ⟨Ob, Os, env, S, h⟩ => ⟨Ob, Os, env, S, a, as, rfl, by rw [evE] at h; exact h⟩
theorem e_or {a : CE} {as : CEs} {e : Expr} (h : PE X e (tOrL (G := G) W (.cons a as))) : PE X e (tE G W (.or a as)) := h.weak fun σ H Q ⟨Ob, Os, env, S, h⟩ => ⟨Ob, Os, env, S, a, as, rfl, by rw [evE] at h; exact h⟩
/-- .. as tests -/
def tAndT' (W : WX) (as : CEs) : TT := fun σ H Q => ∃ Ob Os env, StRel G.K G.w Ob Os env σ H ∧ ∃ a r, as = .cons a r ∧ MPost (((evE G.T G.cl env a).bind fun y => evAnd G.T G.cl env y r).bind fun x => liftM (truth x.2)) (fun b => ∀ H', Same H H' → Q b H') (XP G W σ H)
def tOrT' (W : WX) (as : CEs) : TT := fun σ H Q => ∃ Ob Os env, StRel G.K G.w Ob Os env σ H ∧ ∃ a r, as = .cons a r ∧ MPost (((evE G.T G.cl env a).bind fun y => evOr G.T G.cl env y r).bind fun x => liftM (truth x.2)) (fun b => ∀ H', Same H H' → Q b H') (XP G W σ H)
theorem M.bind_assoc {α β γ : Type} (m : M α) (f : α → M β) (g : β → M γ) : (m.bind f).bind g = m.bind fun a => (f a).bind g := by
  cases m with
  | none => rfl
  | some r => cases r <;> rfl
theorem t_and1 {a : CE} {ea : Expr} {pos : Pos} (ha : PT X ea (tT G W a)) : PW X (.BoolOp .And [ea] pos) (tAndT' (G := G) W (.cons a .nil)) := by
  refine (pw_and1 ha).weak fun σ H Q ⟨Ob, Os, env, S, a', r', e, h⟩ => ⟨Ob, Os, env, S, ?_⟩
  cases e
  rw [M.bind_assoc] at h
  simpa only [evAnd, okM, M.bind_ok] using h
theorem t_or1 {a : CE} {ea : Expr} {pos : Pos} (ha : PT X ea (tT G W a)) : PW X (.BoolOp .Or [ea] pos) (tOrT' (G := G) W (.cons a .nil)) := by
  refine (pw_or1 ha).weak fun σ H Q ⟨Ob, Os, env, S, a', r', e, h⟩ => ⟨Ob, Os, env, S, ?_⟩
  cases e
  rw [M.bind_assoc] at h
  simpa only [evOr, okM, M.bind_ok] using h
theorem MPost.tests {α : Type} {m : M (Fl × D)} {g : Fl × D → M α} {okP : α → Prop} {exP : Nat → List D → Prop} (h : MPost (m.bind g) okP exP) (q : ∀ x, MPost (g x) okP exP → ∃ b, truth x.2 = some b) :
    MPost (m.bind fun x => liftM (truth x.2)) (fun b => ∃ x, m = some (.ok x) ∧ truth x.2 = some b ∧ MPost (g x) okP exP) exP := by
  cases m with
  | none => exact h
  | some r =>
    cases r with
    | ex c p => exact h
    | ok x =>
      obtain ⟨b, e⟩ := q x h
      show MPost (liftM (truth x.2)) _ _
      rw [e]
      exact ⟨x, rfl, e, h⟩
theorem t_andc {a : CE} {as : CEs} {ea eb : Expr} {rest : List Expr} {pos : Pos} (ha : PT X ea (tT G W a)) (hb : PW X (.BoolOp .And (eb :: rest) pos) (tAndT' (G := G) W as)) (hne : ∃ b r, as = .cons b r) : PW X (.BoolOp .And (ea :: eb :: rest) pos) (tAndT' (G := G) W (.cons a as)) := by
  refine (pw_and ha hb).weak fun σ H Q ⟨Ob, Os, env, S, a', r', e, h⟩ => ?_
  cases e
  obtain ⟨b, r, rfl⟩ := hne
  rw [M.bind_assoc] at h
  refine ⟨Ob, Os, env, S, MPost.imp (MPost.tests h fun x hx => ?_) (fun k ⟨x, ex, et, hx⟩ H' s => ?_) fun c p z => z⟩
  · rw [evAnd] at hx
    cases e : truth x.2 with
    | none => rw [e] at hx; exact hx.elim
    | some k => exact ⟨k, rfl⟩
  · rw [evAnd, et] at hx
    cases k with
    | true => exact ite_tt ⟨Ob, Os, env, S.same s, b, r, rfl, MPost.imp hx (fun b z H2 s2 => z H2 (s.trans s2)) fun c p z => XP.same G z s⟩
    | false =>
      simp only [okM, M.bind_ok, et, liftM] at hx
      exact ite_ff (hx H' s)
theorem t_orc {a : CE} {as : CEs} {ea eb : Expr} {rest : List Expr} {pos : Pos} (ha : PT X ea (tT G W a)) (hb : PW X (.BoolOp .Or (eb :: rest) pos) (tOrT' (G := G) W as)) (hne : ∃ b r, as = .cons b r) : PW X (.BoolOp .Or (ea :: eb :: rest) pos) (tOrT' (G := G) W (.cons a as)) := by
  refine (pw_or ha hb).weak fun σ H Q ⟨Ob, Os, env, S, a', r', e, h⟩ => ?_
  cases e
  obtain ⟨b, r, rfl⟩ := hne
  rw [M.bind_assoc] at h
  refine ⟨Ob, Os, env, S, MPost.imp (MPost.tests h fun x hx => ?_) (fun k ⟨x, ex, et, hx⟩ H' s => ?_) fun c p z => z⟩
  · rw [evOr] at hx
    cases e : truth x.2 with
    | none => rw [e] at hx; exact hx.elim
    | some k => exact ⟨k, rfl⟩
  · rw [evOr, et] at hx
    cases k with
    | false => exact ite_ff ⟨Ob, Os, env, S.same s, b, r, rfl, MPost.imp hx (fun b z H2 s2 => z H2 (s.trans s2)) fun c p z => XP.same G z s⟩
    | true =>
      simp only [okM, M.bind_ok, et, liftM] at hx
      exact ite_tt (hx H' s)
theorem t_and {a : CE} {as : CEs} {e : Expr} (h : PW X e (tAndT' (G := G) W (.cons a as))) : PT X e (tT G W (.and a as)) := h.pt.weak fun σ H Q ⟨Ob, Os, env, S, h⟩ => ⟨Ob, Os, env, S, a, as, rfl, by rw [evE] at h; exact h⟩
theorem t_or {a : CE} {as : CEs} {e : Expr} (h : PW X e (tOrT' (G := G) W (.cons a as))) : PT X e (tT G W (.or a as)) := h.pt.weak fun σ H Q ⟨Ob, Os, env, S, h⟩ => ⟨Ob, Os, env, S, a, as, rfl, by rw [evE] at h; exact h⟩
theorem t_cmp {o : COp} {op : CmpOp} {a b : CE} {ea eb : Expr} {pos : Pos} (ho : OpR X (compareOp op) (rC2 G.K G.w (evCmp o))) (ha : PE X ea (tE G W a)) (hb : PE X eb (tE G W b)) (hm : behindInMarks op eb = false) : PT X (.Compare ea [op] [eb] pos) (tT G W (.cmp o a b)) := by
  refine (pt_cmpR ho ha hb hm).weak fun σ H Q ⟨Ob, Os, env, S, h⟩ => ?_
  rw [evE, M.bind_assoc] at h
  simp only [M.bind_assoc] at h
  refine two S h fun x y vx vy H' s rx ry hq => ?_
  cases e : evCmp o x.2 y.2 with
  | none => rw [e] at hq; exact hq.elim
  | some c =>
    rw [e] at hq
    exact ⟨_, x.2, y.2, c, noT_ite _ (S.noT.same s), rx.repC (u := x.1.isUn || y.1.isUn) S.noT s (fun z => by rw [z]; rfl), ry.repC (u := x.1.isUn || y.1.isUn) S.noT s (fun z => by rw [z]; simp), e, fun H'' s2 => ⟨c, rfl, hq H'' (s.trans s2)⟩⟩

theorem e_ite {c a b : CE} {ec ea eb : Expr} {pos : Pos} (hc : PT X ec (tT G W c)) (ha : PE X ea (tE G W a)) (hb : PE X eb (tE G W b)) : PE X (.IfExp ec ea eb pos) (tE G W (.ite c a b)) := by
  refine (pe_ifExp hc ha hb).weak fun σ H Q ⟨Ob, Os, env, S, h⟩ => ?_
  unfold Fin at h
  rw [evE] at h
  refine ⟨Ob, Os, env, S, MPost.imp (MPost.tests h fun x hx => ?_) (fun k ⟨x, ex, et, hx⟩ H' s => ?_) fun c p z => z⟩
  · cases e : truth x.2 with
    | none => simp only [e] at hx; exact hx.elim
    | some k => exact ⟨k, rfl⟩
  · simp only [et] at hx
    cases k with
    | true => exact ite_tt ⟨Ob, Os, env, S.same s, Fin.back hx s⟩
    | false => exact ite_ff ⟨Ob, Os, env, S.same s, Fin.back hx s⟩

/-! ### chains -/
theorem e_chain {o o' : COp} {op op' : CmpOp} {a b c : CE} {ea eb ec : Expr} {pos : Pos} (ho : OpR X (compareOp op) (rC2 G.K G.w (evCmp o))) (ho' : OpR X (compareOp op') (rC2 G.K G.w (evCmp o'))) (ha : PE X ea (tE G W a)) (hb : PE X eb (tE G W b)) (hc : PE X ec (tE G W c))
    (hm : lastMarks [op, op'] [eb, ec] = false) : PE X (.Compare ea [op, op'] [eb, ec] pos) (tE G W (.chain o o' a b c)) := by
  refine (pe_chain ho ho' ha hb hc hm).weak fun σ H Q ⟨Ob, Os, env, S, h⟩ => ?_
  unfold Fin at h
  rw [evE] at h
  refine two S h fun x y vx vy H' s rx ry hq => ?_
  cases e : evCmp o x.2 y.2 with
  | none => simp only [e] at hq; exact hq.elim
  | some k =>
    simp only [e] at hq
    refine ⟨_, x.2, y.2, k, noT_ite _ (S.noT.same s), rx.repC (u := x.1.isUn || y.1.isUn) S.noT s (fun z => by rw [z]; rfl), ry.repC (u := x.1.isUn || y.1.isUn) S.noT s (fun z => by rw [z]; simp), e, fun H'' s2 => ⟨k, rfl, ?_⟩⟩
    cases k with
    | false => exact ite_ff (hq _ H'' (s.trans s2) (st_bl _))
    | true =>
      refine ite_tt (one (S.same (s.trans s2)) (MPost.imp hq (fun r z => z) fun c p z => XP.same G z (s.trans s2)) fun z vz H3 s3 rz hq3 => ?_)
      cases e3 : evCmp o' y.2 z.2 with
      | none => simp only [e3] at hq3; exact hq3.elim
      | some k3 =>
        simp only [e3] at hq3
        have s23 := s2.trans s3
        exact ⟨_, y.2, z.2, k3, noT_ite _ (S.noT.same (s.trans s23)), (ry.same s23).repC (u := y.1.isUn || z.1.isUn) S.noT (s.trans s23) (fun q => by rw [q]; rfl), (rz.base (s.trans s2)).repC (u := y.1.isUn || z.1.isUn) S.noT (s.trans s23) (fun q => by rw [q]; simp), e3,
          fun H4 s4 => hq3 _ H4 ((s.trans s23).trans s4) (st_bl _)⟩

/-! ### displays -/
theorem a_nil : PA X [] (tA G W .nil) := pa_nil.weak fun σ H Q ⟨Ob, Os, env, S, h⟩ => by
  rw [evEs] at h
  exact h [] H (Same.refl H) .nil
theorem a_cons {a : CE} {as : CEs} {e : Expr} {es : List Expr} (ha : PE X e (tE G W a)) (hr : PA X es (tA G W as)) (hs : starEach (e :: es) X.env = (false, eval e X.env) :: starEach es X.env) : PA X (e :: es) (tA G W (.cons a as)) := by
  refine (pa_cons ha hr hs).weak fun σ H Q ⟨Ob, Os, env, S, h⟩ => ?_
  rw [evEs] at h
  refine one S h fun x vx H' s rx hq => ?_
  refine ⟨Ob, Os, env, S.same s, MPost.imp (MPost.bind hq) (fun rs z vs H2 s2 r2 => ?_) fun c p z => XP.same G z s⟩
  exact z (vx :: vs) H2 (s.trans s2) (.cons (rx.same s2) (FlRs.base r2 s))
/-- several arguments -/
theorem many {Ob Os : List Addr} {env : Env} {σ : L2.St} {H : Hp} {as : CEs} {α : Type} {f : List (Fl × D) → M α} {okP : α → Prop} {R : List V → Hp → Prop} (S : StRel G.K G.w Ob Os env σ H)
    (h : MPost ((evEs G.T G.cl env as).bind f) okP (XP G W σ H))
    (q : ∀ xs vs H', Same H H' → FlRs G Ob Os H H' xs vs → MPost (f xs) okP (XP G W σ H) → R vs H') : tA G W as σ H R :=
  ⟨Ob, Os, env, S, MPost.imp (MPost.bind h) (fun xs hx vs H1 s1 r1 => q xs vs H1 s1 r1 hx) fun c p z => z⟩
theorem same_new {H : Hp} {p : Addr} {o : HO} (h : H p = none) : Same H (upd H p o) := fun b u e => by rw [upd_ne (ne_of_none e h)]; exact e
theorem FlRs.length {Ob Os : List Addr} {H H' : Hp} : ∀ {rs : List (Fl × D)} {vs : List V}, FlRs G Ob Os H H' rs vs → rs.length = vs.length
  | _, _, .nil => rfl
  | _, _, .cons _ t => congrArg (· + 1) (FlRs.length t)

/-- plain arguments, no star -/
def NoStar (X : Cx) (es : List Expr) : Prop := starEach es X.env = es.map fun e => (false, eval e X.env)
theorem NoStar.head {e : Expr} {es : List Expr} (h : NoStar X (e :: es)) (h' : NoStar X es) : starEach (e :: es) X.env = (false, eval e X.env) :: starEach es X.env := by
  unfold NoStar at h h'
  rw [h, h', List.map_cons]
theorem NoStar.any {es : List Expr} (h : NoStar X es) (pos : Pos) : (backTo pos (starEach es X.env)).any (·.1) = false := by
  unfold NoStar at h
  rw [h]
  unfold backTo
  induction es with
  | nil => rfl
  | cons e r ih => simp [List.map_cons, List.any_cons] <;> simp
def CEs.len : CEs → Nat
  | .nil => 0
  | .cons _ as => as.len + 1
theorem evEs_len {T : Tb} {cl : Call} {env : Env} : ∀ {as : CEs} {rs : List (Fl × D)}, evEs T cl env as = some (.ok rs) → rs.length = as.len
  | .nil, rs, h => by rw [evEs] at h; cases h; rfl
  | .cons a as, rs, h => by
    rw [evEs] at h
    cases e : evE T cl env a with
    | none => rw [e] at h; cases h
    | some r =>
      rw [e] at h
      cases r with
      | ex c p => cases h
      | ok x =>
        rw [M.bind_ok] at h
        cases e2 : evEs T cl env as with
        | none => rw [e2] at h; cases h
        | some r2 =>
          rw [e2] at h
          cases r2 with
          | ex c p => cases h
          | ok ys =>
            cases h
            exact congrArg (· + 1) (evEs_len e2)
theorem many' {Ob Os : List Addr} {env : Env} {σ : L2.St} {H : Hp} {as : CEs} {α : Type} {f : List (Fl × D) → M α} {okP : α → Prop} {R : List V → Hp → Prop} (S : StRel G.K G.w Ob Os env σ H)
    (h : MPost ((evEs G.T G.cl env as).bind f) okP (XP G W σ H))
    (q : ∀ xs vs H', xs.length = as.len → Same H H' → FlRs G Ob Os H H' xs vs → MPost (f xs) okP (XP G W σ H) → R vs H') : tA G W as σ H R := by
  refine ⟨Ob, Os, env, S, ?_⟩
  cases e : evEs G.T G.cl env as with
  | none => rw [e] at h; exact h
  | some r =>
    rw [e] at h
    cases r with
    | ex c p => exact h
    | ok xs => exact fun vs H' s r => q xs vs H' (evEs_len e) s r h

/-- tuples come with their objects -/
abbrev tobj (us : List Value) : Obj := { cls := .type "tuple", data := .seq us.toArray }
theorem tup_new {pins : List (Addr × Obj)} {σ : L2.St} {H : Hp} {s : Shared} {xs : List V} {us : List Value} {t' : Nat} (I : Inv X pins σ H s) (hv : Vals xs us) (hz : xs.length ≤ sizeLine) :
    Inv X pins σ (upd H s.heap.objs.size (.frz (tobj us) (.tup xs))) { s with heap := s.heap.push (tobj us), toks := t' } :=
  I.laid (fun b u e => Heap.get?_push_of_some _ e) (Nat.le_refl _) ⟨Heap.get?_push_size _ rfl, hz, us, hv, ⟨_, Heap.get?_push_size _ rfl, rfl, _, rfl⟩⟩
def tTupF (t : TA) : TE := fun σ H Q => t σ H fun xs H1 => xs.length ≤ sizeLine ∧ ∀ p us, H1 p = none → Q (.ref p) (upd H1 p (.frz (tobj us) (.tup xs)))
theorem pe_tupF {es : List Expr} {t : TA} {x1 : Nat} {pos : Pos} (h : PA X es t) : PE X (.Tuple es x1 pos) (tTupF t) := by
  refine ⟨fun pins s σ H Q I hq => ?_⟩
  refine wpAny_Tuple_spliced (thn (h.run pos pins s σ H _ I hq) fun us s1 ⟨xs, H1, I1, r, z, q⟩ => ⟨by rw [← r.length]; exact z, ?_⟩)
  exact ⟨.ref s1.heap.objs.size, _, tup_new (t' := s1.toks) I1 r z, rfl, q _ us (I1.hok.fresh (Nat.le_refl _))⟩
theorem new_tup {K : Frag} {w : World} {O : List Addr} {H H0 : Hp} {p : Addr} {ds : List D} {vs : List V} {us : List Value} (n : NoT H O) (hp : H p = none) (h : Reps K w (Hm H O) ds vs) : Rep K w (Hm (upd H p (.frz (tobj us) (.tup vs))) O) (.tup ds) (.ref p) := by
  refine .tup (vs := vs) (.inl ⟨tobj us, ?_, rfl⟩) (h.same (Hm_ext (same_new hp)))
  rw [Hm_at (noT_out n hp), upd_same]
theorem e_tup {as : CEs} {es : List Expr} {k : Nat} {pos : Pos} (ha : PA X es (tA G W as)) (hl : as.len ≤ 1000) : PE X (.Tuple es k pos) (tE G W (.tup as)) := by
  refine (pe_tupF ha).weak fun σ H Q ⟨Ob, Os, env, S, h⟩ => ?_
  unfold Fin at h
  rw [evE] at h
  refine many' S h fun xs vs H' hx s r hq => ⟨?_, fun p us hp => ?_⟩
  · rw [← r.length, hx]; exact Nat.le_trans hl (by decide)
  have n := S.noT.same s
  refine hq _ _ (s.trans (same_new hp)) ?_
  cases e : stills xs with
  | true => exact new_tup (H0 := H) n hp (r.still S.noT s e)
  | false => exact new_tup (H0 := H) (noT_sub n fun a h => List.mem_append_right _ h) hp (r.outer S.noT S.dj)
/-- a new list of such items -/
theorem new_lst {K : Frag} {w : World} {O : List Addr} {H : Hp} {p : Addr} {ds : List D} {vs : List V} (n : NoT H O) (hp : H p = none) (h : Reps K w (Hm H O) ds vs) : Out K w O H (upd H p (.lst vs)) true (.lst ds) (.ref p) :=
  ⟨p, rfl, hp, .lst upd_same (h.same (Hm_mono (fun a o e _ => same_new hp a o e) fun a ha => by
    rcases List.mem_cons.mp ha with e | ha
    · exact .inr (by rw [e]; exact hp)
    · exact .inl ha))⟩
theorem e_lst {as : CEs} {es : List Expr} {pos : Pos} (ha : PA X es (tA G W as)) (hl : as.len ≤ 1000) : PE X (.List es pos) (tE G W (.lst as)) := by
  refine (pe_lst ha).weak fun σ H Q ⟨Ob, Os, env, S, h⟩ => ?_
  unfold Fin at h
  rw [evE] at h
  refine many' S h fun xs vs H' hx s r hq => ⟨?_, fun p hp => ?_⟩
  · rw [← r.length, hx]; exact Nat.le_trans hl (by decide)
  have n := S.noT.same s
  have s2 := same_new (o := .lst vs) hp
  refine hq _ _ (s.trans s2) ?_
  cases e : stills xs with
  | true => exact FlR.base (f := .fr) (new_lst n hp (r.still S.noT s e)) s
  | false =>
    show Rep G.K G.w (Hm _ Ob) _ _
    refine .lst (vs := vs) ?_ ((r.outer S.noT S.dj).same (Hm_ext s2))
    rw [Hm_at fun z => noT_out n hp (List.mem_append_right _ z), upd_same]

/-! ### slices -/
def tO (W : WX) (cs : CEs) : TO := fun σ H Q => ∃ Ob Os env, StRel G.K G.w Ob Os env σ H ∧ MPost (evO G.T G.cl env cs) (fun o => ∀ H', Same H H' → Q o H') (XP G W σ H)
theorem o_none : PO X none (tO (G := G) W .nil) := ⟨fun pins s σ H Q I ⟨Ob, Os, env, S, h⟩ => po_none.run pins s σ H Q I (by rw [evO] at h; exact h H (Same.refl H))⟩
theorem o_some {a : CE} {as : CEs} {e : Expr} (ha : PE X e (tE G W a)) : PO X (some e) (tO (G := G) W (.cons a as)) := ⟨fun pins s σ H Q I ⟨Ob, Os, env, S, h⟩ => (po_some ha).run pins s σ H Q I (by
  rw [evO] at h
  refine one S h fun x vx H' s rx hq => ?_
  obtain ⟨f, d⟩ := x
  cases d with
  | int i =>
    cases rx.rep
    exact ⟨i, rfl, hq H' s⟩
  | _ => exact hq.elim)⟩
def rS (K : Frag) (w : World) : V → Option Int → Option Int → Hp → VK → Prop := fun x lo hi H Q => ∃ O d0 fr d, NoT H O ∧ RepC K w O H d0 x ∧ evSlc d0 lo hi = some (fr, d) ∧ ∀ v H', Same H H' → Out K w O H H' fr d v → Q v H'
theorem e_slc {a : CE} {lo hi : CEs} {ea : Expr} {el eh : Option Expr} {p2 pos : Pos} (hr : SlR X (rS G.K G.w)) (ha : PE X ea (tE G W a)) (hl : PO X el (tO (G := G) W lo)) (hh : PO X eh (tO (G := G) W hi)) : PE X (.Subscript ea (.Slice el eh none p2) pos) (tE G W (.slc a lo hi)) := by
  refine (pe_slice hr ha hl hh).weak fun σ H Q ⟨Ob, Os, env, S, h⟩ => ?_
  unfold Fin at h
  rw [evE] at h
  refine one S h fun x vx H1 s1 rx h1 => ?_
  refine ⟨Ob, Os, env, S.same s1, MPost.imp (MPost.bind h1) (fun l h2 H2 s2 => ?_) fun c p z => XP.same G z s1⟩
  refine ⟨Ob, Os, env, S.same (s1.trans s2), MPost.imp (MPost.bind h2) (fun u h3 H3 s3 => ?_) fun c p z => XP.same G z (s1.trans s2)⟩
  cases e : evSlc x.2 l u with
  | none => rw [e] at h3; exact h3.elim
  | some r =>
    obtain ⟨fr, d⟩ := r
    rw [e] at h3
    have s := s1.trans (s2.trans s3)
    exact ⟨_, x.2, fr, d, noT_ite x.1.isUn (S.noT.same s), (rx.same (s2.trans s3)).repC S.noT s fun z => z, e, fun v H4 s4 ho => h3 v H4 (s.trans s4) ((Out.fl (S.noT.same s) s4 ho).base s)⟩

/-! ### calls -/
/-- a def's promise: what the evaluator's call gives -/
def spC (np f : Nat) : Sp := fun vs H Q E => vs.length = np ∧ ∃ Ob ds, NoT H Ob ∧ Reps G.K G.w (Hm H Ob) ds vs ∧
  MPost (G.cl f ds) (fun r => ∀ v H', Same H H' → Out G.K G.w Ob H H' (r.1 == .fr) r.2 v → Q v H') (fun c p => ∀ cls dx H', Same H H' → XRel G.K G.w G.xt H' c p cls dx → E cls dx H')
theorem e_call {as : CEs} {e : Expr} {es : List Expr} {x : Str} {p pos : Pos} {np f k : Nat} {fa : Addr} {fd : FuncData} {ps : List Str} (F : FnOk X.prog X.w X.K X.mg X.base (L2.CX X.prog X.w) k fa fd ps (spC (G := G) np f)) (hr : Room k X.A) (hg : Gl X x) (hm : X.mg x = some (.ref fa)) (hk : PySem.W.keepIn X.K (.ref fa) = true) (hb : Binds X.K fd ps [])
    (tk : Takes X W) (ha : PA X (e :: es) (tA G W as)) (hdb : (x == ("__debug__" : Str)) = false) (hs : NoStar X (e :: es)) (hs' : NoStar X es) (hl : as.len = np) : PE X (.Call (.Name x p) (e :: es) [] pos) (tE G W (.call f as)) := by
  refine (pe_callS F hr hg hm hk hb (fun σ => passAt tk σ) ha hdb (hs.head hs') (hs'.any pos)).weak fun σ H Q ⟨Ob, Os, env, S, h⟩ => ?_
  unfold Fin at h
  rw [evE] at h
  refine many' S h fun xs vs H' hx s r hq => ?_
  refine ⟨by rw [← r.length, hx, hl], if (!stills xs) = true then Ob else Os ++ Ob, Ev.vals xs, noT_ite _ (S.noT.same s), ?_, ?_⟩
  · cases e : stills xs with
    | true => exact r.still S.noT s e
    | false => exact r.outer S.noT S.dj
  · refine MPost.imp (MPost.bind hq) (fun y hy v H2 s2 ho => ?_) fun c p z cls dx H2 s2 xr => z cls dx H2 (s.trans s2) xr
    exact hy v H2 (s.trans s2) ((Out.fl (S.noT.same s) s2 ho).base s)
theorem e_call0 {x : Str} {p pos : Pos} {f k : Nat} {fa : Addr} {fd : FuncData} {ps : List Str} (F : FnOk X.prog X.w X.K X.mg X.base (L2.CX X.prog X.w) k fa fd ps (spC (G := G) 0 f)) (hr : Room k X.A) (hg : Gl X x) (hm : X.mg x = some (.ref fa)) (hk : PySem.W.keepIn X.K (.ref fa) = true) (hb : Binds X.K fd ps [])
    (tk : Takes X W) (hdb : (x == ("__debug__" : Str)) = false) : PE X (.Call (.Name x p) [] [] pos) (tE G W (.call f .nil)) := by
  have hc : PE X (.Call (.Name x p) [] [] pos) (tCallS (spC (G := G) 0 f) (WE W) tNil) := by
    refine ⟨fun pins s σ H Q I h => ?_⟩
    refine wpAny_Call_Name_kw (ld_glob I hg hm ?_ hdb)
    exact PySem.W.callWith_K0 I.kIn hk (run_fnS (us := []) F hr hb (passAt tk σ) I .nil h)
  refine hc.weak fun σ H Q ⟨Ob, Os, env, S, h⟩ => ?_
  unfold Fin at h
  rw [evE, evEs] at h
  refine ⟨rfl, Os ++ Ob, [], S.noT, .nil, ?_⟩
  refine MPost.imp (MPost.bind (exP := XP G W σ H) (by simpa only [okM, M.bind_ok, Ev.vals] using h)) (fun y hy v H2 s2 ho => ?_) fun c p z => z
  exact hy v H2 s2 (Out.fl (u := false) S.noT s2 ho)

theorem e_blt {as : CEs} {e : Expr} {es : List Expr} {x : Str} {p pos : Pos} {b : Nat} {pr : Prim} {id : String} (hp : G.T.blt[b]? = some pr) (hc : CallR X (.builtin id) (rP G.K G.w pr)) (hg : Gl X x) (hm : X.mg x = none) (hv : bootBuiltins x = some (.builtin id)) (ha : PA X (e :: es) (tA G W as))
    (hn : x ≠ "__name__") (hdb : (x == ("__debug__" : Str)) = false) (hs : NoStar X (e :: es)) (hs' : NoStar X es) : PE X (.Call (.Name x p) (e :: es) [] pos) (tE G W (.blt b as)) := by
  refine (pe_callB hc hg hm hv ha hn hdb (hs.head hs') (hs'.any pos)).weak fun σ H Q ⟨Ob, Os, env, S, h⟩ => ?_
  unfold Fin at h
  rw [evE] at h
  refine many S h fun xs vs H' s r hq => ?_
  rw [hp] at hq
  simp only at hq
  cases e : pr (Ev.vals xs) with
  | none => rw [e] at hq; exact hq.elim
  | some q =>
    obtain ⟨fr, d⟩ := q
    rw [e] at hq
    exact ⟨_, Ev.vals xs, fr, d, noT_ite (anyUn (fls xs)) (S.noT.same s), r.repC S.noT s fun z => z, e, fun v H2 s2 ho => hq v H2 (s.trans s2) ((Out.fl (S.noT.same s) s2 ho).base s)⟩
theorem e_bltTy {as : CEs} {e : Expr} {es : List Expr} {x : Str} {p pos : Pos} {b : Nat} {pr : Prim} {ty : String} (hp : G.T.blt[b]? = some pr) (hc : CallR X (.type ty) (rP G.K G.w pr)) (hg : Gl X x) (hm : X.mg x = none) (hv : bootBuiltins x = some (.type ty)) (ha : PA X (e :: es) (tA G W as))
    (hn : x ≠ "__name__") (hdb : (x == ("__debug__" : Str)) = false) (hs : NoStar X (e :: es)) (hs' : NoStar X es) : PE X (.Call (.Name x p) (e :: es) [] pos) (tE G W (.blt b as)) := by
  refine (pe_callTy hc hg hm hv ha hn hdb (hs.head hs') (hs'.any pos)).weak fun σ H Q ⟨Ob, Os, env, S, h⟩ => ?_
  unfold Fin at h
  rw [evE] at h
  refine many S h fun xs vs H' s r hq => ?_
  rw [hp] at hq
  simp only at hq
  cases e : pr (Ev.vals xs) with
  | none => rw [e] at hq; exact hq.elim
  | some q =>
    obtain ⟨fr, d⟩ := q
    rw [e] at hq
    exact ⟨_, Ev.vals xs, fr, d, noT_ite (anyUn (fls xs)) (S.noT.same s), r.repC S.noT s fun z => z, e, fun v H2 s2 ho => hq v H2 (s.trans s2) ((Out.fl (S.noT.same s) s2 ho).base s)⟩

/-! ### methods: by the receiver's own type -/
def kTy : Nat → String
  | 1 => "int" | 2 => "str" | 3 => "tuple" | 4 => "list" | 5 => "dict" | _ => ""
theorem kTy_is {pins : List (Addr × Obj)} {σ : L2.St} {H : Hp} {s : Shared} {x : V} {v : Value} {d : D} {w : World} (I : Inv X pins σ H s) (r : RelV x v) (h : Rep X.K w H d x) (hd : kindOf d ≠ 0) :
    s.TypeIs v (kTy (kindOf d)) ∧ (∀ a, v = .ref a → ∃ ob, s.heap.get? a = some ob ∧ ob.dict = none) := by
  cases h with
  | non => exact absurd rfl hd
  | bl b => exact absurd rfl hd
  | int i =>
    obtain ⟨t, rfl⟩ := r
    exact ⟨typeIs_int s i t, fun _ e => nomatch e⟩
  | str z =>
    obtain ⟨t, rfl⟩ := r
    exact ⟨typeIs_str s _ t, fun _ e => nomatch e⟩
  | tup hs hr =>
    cases r
    rcases hs with ⟨o, ho, hd'⟩ | ⟨o, its, n, ho, hc, hd', _⟩
    · obtain ⟨e, _, _, _, o', e', c, _⟩ := I.hok _ _ ho
      rw [e] at e'; cases e'
      exact ⟨⟨o, e, c⟩, fun a e2 => by cases e2; exact ⟨o, e, hd'⟩⟩
    · have e := I.kIn _ _ ho
      exact ⟨⟨o, e, hc⟩, fun a e2 => by cases e2; exact ⟨o, e, hd'⟩⟩
  | lst hs hr =>
    cases r
    obtain ⟨its, _, pl, _⟩ := I.list (SqL.of hs)
    refine ⟨pl.isList.typeIs, fun a e => ?_⟩
    cases e
    obtain ⟨o, n, e, c, hd, _⟩ := pl
    exact ⟨o, e, hd⟩
  | set hs hr => exact absurd rfl hd
  | dct hs hr =>
    cases r
    obtain ⟨_, _, _, _, o, es, ep, e, ex, _⟩ := I.hok _ _ hs
    refine ⟨⟨o, e, ex.1⟩, fun a e2 => ?_⟩
    cases e2
    exact ⟨o, e, ex.2.1⟩
/-- what every receiver may be, the method's name given -/
def MthAny (X : Cx) (K : Frag) (w : World) (name : Str) (p : Mth) : Prop := ∀ k, natIn k p.ks = true → k ≠ 0 ∧ ∃ id, PlainAttrs (kTy k) ∧ PySem.Slot (kTy k) name id ∧ typeOf (.builtin id) = pure (.type "method_descriptor") ∧
  MtR X id (fun x xs H Q => ∃ O d0 ds fr d, kindOf d0 = k ∧ NoT H O ∧ RepC K w O H d0 x ∧ RepCs K w O H ds xs ∧ p.run d0 ds = some (fr, d) ∧ ∀ v H', Same H H' → Out K w O H H' fr d v → Q v H')
theorem e_mth {m : Nat} {o : CE} {as : CEs} {eo e : Expr} {es : List Expr} {name : Str} {apos cpos : Pos} {p : Mth} (hK : X.K = G.K) (hp : G.T.mth[m]? = some p) (hm : MthAny X G.K G.w name p) (ho : PE X eo (tE G W o)) (ha : PA X (e :: es) (tA G W as))
    (hbase : attributeBase eo name X.env (eval eo X.env) = eval eo X.env) (hline : (apos.endLine == cpos.line) = true) (hs : NoStar X (e :: es)) (hs' : NoStar X es) (hl : (e :: es).length < 30) :
    PE X (.Call (.Attribute eo name apos) (e :: es) [] cpos) (tE G W (.mth m o as)) := by
  refine ⟨fun pins s σ H Q I h => ?_⟩
  obtain ⟨Ob, Os, env, S, h⟩ := h
  unfold Fin at h
  rw [evE, hp] at h
  have hfew : ((backTo cpos (starEach (e :: es) X.env)).all (fun x => !x.1) && (backToKw cpos (keywordEach [] X.env)).all (fun x => x.1.isSome)
      && decide ((e :: es).length + ([] : List Keyword).length + (if ([] : List Keyword).isEmpty then 0 else 1) < 30)) = true := by
    have h1 : (backTo cpos (starEach (e :: es) X.env)).all (fun x => !x.1) = true := by
      unfold NoStar at hs
      rw [hs]
      unfold backTo
      simp
    rw [h1]
    simp [keywordEach, backToKw]
    simpa using hl
  have h1 := one (R := fun x H1 => ∃ d0 f0, FlR G.K G.w Ob Os H H1 d0 x f0 ∧ natIn (kindOf d0) p.ks = true ∧ tA G W as σ H1 fun xs H2 =>
      ∃ O ds fr d, NoT H2 O ∧ RepC G.K G.w O H2 d0 x ∧ RepCs G.K G.w O H2 ds xs ∧ p.run d0 ds = some (fr, d) ∧ ∀ v H', Same H2 H' → Out G.K G.w O H2 H' fr d v → Q v H') S h fun x vx H' s1 rx hq => by
    cases e1 : natIn (kindOf x.2) p.ks with
    | false => simp only [e1] at hq; exact hq.elim
    | true =>
      simp only [e1, if_true] at hq
      refine ⟨x.2, x.1, rx, e1, many (S.same s1) (MPost.imp hq (fun r z => z) fun c p z => XP.same G z s1) fun xs vs H2 s2 rs hq2 => ?_⟩
      cases e2 : p.run x.2 (Ev.vals xs) with
      | none => simp only [e2] at hq2; exact hq2.elim
      | some r =>
        obtain ⟨fr, d⟩ := r
        simp only [e2] at hq2
        have s := s1.trans s2
        refine ⟨if (x.1.isUn || anyUn (fls xs)) = true then Ob else Os ++ Ob, Ev.vals xs, fr, d, noT_ite _ (S.noT.same s), (rx.same s2).repC S.noT s fun z => by rw [z]; rfl, rs.repC (S.noT.same s1) s2 fun z => by rw [z]; simp, e2, fun v H3 s3 ho => hq2 v H3 (s.trans s3) ((Out.fl (S.noT.same s) s3 ho).base s)⟩
  refine wpAny_Call_method_late hbase hfew hline rfl (thn (ho.run pins s σ H _ I h1) fun v s1 ⟨x, H1, I1, r1, q1⟩ => ?_)
  obtain ⟨d0, f0, rf, hk, q1⟩ := q1
  obtain ⟨hk0, id, pa, slot, hty, rule⟩ := hm _ hk
  obtain ⟨h2, h3⟩ := kTy_is (w := G.w) I1 r1 (by rw [hK]; exact rf.rep) hk0
  refine ⟨kTy (kindOf d0), id, pa, slot, hty, h2, h3, ?_⟩
  have hA := ha.run cpos pins s1 σ H1 _ I1 q1
  rw [hs.head hs'] at hA ⊢
  refine Calls.callWith_builtin (by show (false || (backTo cpos (starEach es X.env)).any (·.1)) = false; rw [hs'.any] <;> rfl) (Calls.evalArgs_plain ?_)
  exact thn hA fun us s2 ⟨vs, H2, I2, r2, O, ds, fr, d, n, c1, c2, e, q2⟩ => rule pins s2 σ H2 x vs v us Q I2 r1 r2 ⟨O, d0, ds, fr, d, rfl, n, c1, c2, e, q2⟩

/-! ### isinstance -/
def tyName : Ty → String
  | .int => "int" | .bool => "bool" | .str => "str" | .tuple => "tuple"
theorem kitN : ∀ ty, kitB "NoneType" (tyName ty) = some false := fun ty => by cases ty <;> decide +kernel
theorem kitBl : ∀ ty, kitB "bool" (tyName ty) = some (tyIs ty (.bl true)) := fun ty => by cases ty <;> decide +kernel
theorem kitI : ∀ ty, kitB "int" (tyName ty) = some (tyIs ty (.int 0)) := fun ty => by cases ty <;> decide +kernel
theorem kitS : ∀ ty, kitB "str" (tyName ty) = some (tyIs ty (.str [])) := fun ty => by cases ty <;> decide +kernel
theorem kitT : ∀ ty, kitB "tuple" (tyName ty) = some (tyIs ty (.tup [])) := fun ty => by cases ty <;> decide +kernel
theorem kitL : ∀ ty, kitB "list" (tyName ty) = some false := fun ty => by cases ty <;> decide +kernel
theorem TyX_of {K : Frag} {w : World} {H : Hp} {d : D} {v : V} (h : Rep K w H d v) (hd : noDct d = true) : ∃ t, TyX K H v (.type t) ∧ ∀ ty, kitB t (tyName ty) = some (tyIs ty d) := by
  cases h with
  | non => exact ⟨"NoneType", .base .non, fun ty => (kitN ty).trans (by cases ty <;> rfl)⟩
  | bl b => exact ⟨"bool", .base (.bl b), fun ty => (kitBl ty).trans (by cases ty <;> rfl)⟩
  | int i => exact ⟨"int", .base (.int i), fun ty => (kitI ty).trans (by cases ty <;> rfl)⟩
  | str x => exact ⟨"str", .base (.str _), fun ty => (kitS ty).trans (by cases ty <;> rfl)⟩
  | tup hs hr =>
    rcases hs with ⟨o, ho, _⟩ | ⟨o, its, n, ho, hc, _⟩
    · exact ⟨"tuple", .fTuple ho, fun ty => (kitT ty).trans (by cases ty <;> rfl)⟩
    · exact ⟨"tuple", .kTuple ho hc, fun ty => (kitT ty).trans (by cases ty <;> rfl)⟩
  | lst hs hr =>
    exact ⟨"list", .base (.lst hs), fun ty => (kitL ty).trans (by cases ty <;> rfl)⟩
  | set hs hr => cases hd
  | dct hs hr => cases hd
theorem boot_isi : bootBuiltins "isinstance" = some (.builtin "isinstance") := by decide +kernel
theorem boot_ty : ∀ ty, bootBuiltins (Str.ofString (tyName ty)) = some (.type (tyName ty)) := fun ty => by cases ty <;> decide +kernel
theorem ty_ne : ∀ ty, Str.ofString (tyName ty) ≠ "__name__" := fun ty => by cases ty <;> decide +kernel
theorem ty_db : ∀ ty, (Str.ofString (tyName ty) == ("__debug__" : Str)) = false := fun ty => by cases ty <;> decide +kernel
theorem e_isi {a : CE} {e : Expr} {p p2 pos : Pos} {ty : Ty} (hK : X.K = G.K) (ha : PE X e (tE G W a)) (hg : Gl X "isinstance") (hm : X.mg "isinstance" = none) (hg2 : Gl X (Str.ofString (tyName ty))) (hm2 : X.mg (Str.ofString (tyName ty)) = none)
    (hs : NoStar X [e, .Name (Str.ofString (tyName ty)) p2]) : PE X (.Call (.Name "isinstance" p) [e, .Name (Str.ofString (tyName ty)) p2] [] pos) (tE G W (.isi a ty)) := by
  have hs1 : NoStar X [.Name (Str.ofString (tyName ty)) p2] := rfl
  have h2 : PE X (.Name (Str.ofString (tyName ty)) p2) (tC (.ty (tyName ty))) := pe_bltn hg2 hm2 (boot_ty ty) rfl (ty_ne ty) (ty_db ty)
  have hA : PA X [e, .Name (Str.ofString (tyName ty)) p2] (tCons (tE G W a) (tCons (tC (.ty (tyName ty))) tNil)) := pa_cons ha (pa_cons h2 pa_nil rfl) (hs.head hs1)
  refine (pe_callB call_isi hg hm boot_isi hA (by decide +kernel) (by decide +kernel) (hs.head hs1) (hs1.any pos)).weak fun σ H Q ⟨Ob, Os, env, S, h⟩ => ?_
  unfold Fin at h
  rw [evE] at h
  refine one S h fun x vx H' s rx hq => ?_
  cases e1 : noDct x.2 with
  | false => rw [e1] at hq; exact hq.elim
  | true =>
    rw [e1] at hq
    obtain ⟨t, h1, h2⟩ := TyX_of rx.rep e1
    rw [hK]
    exact ⟨vx, _, _, _, tyIs ty x.2, rfl, .ty (tyName ty), h1, kit_ty (h2 ty), hq _ H' s (st_bl _)⟩
end
end Ev

end
section
/-! Ev5: what is walked; targets; comprehensions. -/
set_option autoImplicit false
set_option linter.all false
set_option Elab.async false
set_option maxRecDepth 100000
set_option maxHeartbeats 4000000
namespace L2
open PySem
theorem PI.weak {X : Cx} {tg iter : Expr} {t t' : TI} (h : PI X tg iter t) (q : ∀ σ H R, t' σ H R → t σ H R) : PI X tg iter t' := ⟨fun pins s σ H R I hw => h.run pins s σ H R I (q σ H R hw)⟩
theorem PG.weak {X : Cx} {tg : Expr} {t t' : TG} (h : PG X tg t) (q : ∀ v σ H Q, t' v σ H Q → t v σ H Q) : PG X tg t' := ⟨fun pins s σ H v u Q I r hw => h.run pins s σ H v u Q I r (q v σ H Q hw)⟩
theorem PGs.weak {X : Cx} {tg : List Expr} {t t' : TGs} (h : PGs X tg t) (q : ∀ v σ H Q, t' v σ H Q → t v σ H Q) : PGs X tg t' := ⟨fun pins s σ H v u Q I r hw => h.run pins s σ H v u Q I r (q v σ H Q hw)⟩
end L2
namespace Ev
open PySem PySem.Spec PyProof.Rows L2

/-! ### the sources -/
/-- a walked item: it stands still, or it is a new tuple of such items -/
def ItemR (pr : Bool) (K : Frag) (w : World) (F H : Hp) (d : D) (x : V) : Prop := Rep K w F d x ∨ pr = true ∧ ∃ T vs ds, d = .tup ds ∧ x = .ref T ∧ SqT K H T vs ∧ Reps K w F ds vs
/-- a source that gives new tuples -/
def paired : CI → Bool
  | .seq _ => false
  | .rng _ => false
  | _ => true
def ItOk (pr : Bool) (K : Frag) (w : World) (F : Hp) (M : List Addr) (H1 : Hp) (J : It) (ds : List D) : Prop := ∀ i H', Same (Hm H1 M) H' →
  (ds.length ≤ i → J.stop i H') ∧ ∀ d, ds[i]? = some d → J.go i H' ∧ ∀ x H'', J.yld i H' x H'' → Same H' H'' ∧ ItemR pr K w F H'' d x
def MOk (Ob Os : List Addr) (env : Env) (ci : CI) (sol : Bool) (M : List Addr) : Prop := (∀ a ∈ M, a ∈ Ob) ∨
  ((∀ a ∈ M, a ∈ Os ++ Ob) ∧ sol = true ∧ ∀ i ∈ ciVars ci, ∀ d, env[i]? ≠ some (some (.ow, d)))
section
variable (G : Lg)
def tI (W : WX) (ci : CI) : TI := fun σ H R => ∃ Ob Os env, StRel G.K G.w Ob Os env σ H ∧ MPost (evI G.T G.cl env ci) (fun q => ∀ J H1, Same H H1 → (∀ M, MOk Ob Os env ci q.1 M → ItOk (paired ci) G.K G.w (Hm H1 (Os ++ Ob)) M H1 J q.2) → R J H1) (XP G W σ H)
/-- .. and a name's value is the slot's -/
def tE' (W : WX) (c : CE) : TE := fun σ H Q => ∃ Ob Os env, StRel G.K G.w Ob Os env σ H ∧
  MPost (evE G.T G.cl env c) (fun r => ∀ v H', Same H H' → FlR G.K G.w Ob Os H H' r.2 v r.1 → (∀ i, c = .var i → σ[i]? = some (some v)) → Q v H') (XP G W σ H)
end
section
variable {G : Lg} {X : Cx} {W : WX} {tg : Expr}
theorem e_src {c : CE} {e : Expr} (h : PE X e (tE G W c)) (hv : isVar c = false) : PE X e (tE' G W c) := h.weak fun σ H Q ⟨Ob, Os, env, S, q⟩ => ⟨Ob, Os, env, S, MPost.imp q (fun r z v H' s f => z v H' s f fun i e => by subst e; cases hv) fun c p z => z⟩
theorem e_srcV {i : Nat} {x : Str} {pos : Pos} (hN : X.N[i]? = some x) (hv : Vis X.env.scope x) (hd : (x == ("__debug__" : Str)) = false) (hcd : (x == ("__classdict__" : Str)) = false) : PE X (.Name x pos) (tE' G W (.var i)) := by
  refine (pe_var hN hv hd hcd).weak fun σ H Q ⟨Ob, Os, env, S, h⟩ => ?_
  rw [evE] at h
  unfold getS at h
  cases e : env[i]? with
  | none => rw [e] at h; exact h.elim
  | some o =>
    rw [e] at h
    cases o with
    | none => exact h.elim
    | some p =>
      obtain ⟨sf, d⟩ := p
      obtain ⟨v, hs, r⟩ := S.slot i sf d e
      refine ⟨v, hs, ?_⟩
      have z : ∀ j, CE.var i = .var j → σ[j]? = some (some v) := fun j e => by cases e; exact hs
      cases sf with
      | fz => exact h v H (Same.refl H) r z
      | ow => exact h v H (Same.refl H) r z

/-- what is said of a container that is walked while the objects at M change -/
structure Walk (K : Frag) (w : World) (Ob Os M : List Addr) (H1 : Hp) (x : Fl × D) (vx : V) (ds : List D) : Prop where
  lst : x.2 = .lst ds → ∃ b vs, vx = .ref b ∧ Reps K w (Hm H1 (Os ++ Ob)) ds vs ∧ ∀ H', Same (Hm H1 M) H' → SqL K H' b vs
  tup : x.2 = .tup ds → ∃ b vs, vx = .ref b ∧ Reps K w (Hm H1 (Os ++ Ob)) ds vs ∧ ∀ H', Same (Hm H1 M) H' → SqT K H' b vs
theorem same_hm {H1 H' : Hp} {O M : List Addr} (s : Same (Hm H1 M) H') (q : ∀ a ∈ M, a ∈ O) : Same (Hm H1 O) H' := fun a o h => by
  obtain ⟨n, e⟩ := Hm_of h
  exact s a o (by rw [Hm_at fun z => n (q a z)]; exact e)
theorem sqL_hm {K : Frag} {H H' : Hp} {a : Addr} {vs : List V} (h : SqL K H a vs) (q : ∀ o, H a = some o → H' a = some o) : SqL K H' a vs := by
  rcases h with (h | ⟨o, h⟩) | h
  · exact .inl (.inl (q _ h))
  · exact .inl (.inr ⟨o, q _ h⟩)
  · exact .inr h
theorem sqT_hm {K : Frag} {H H' : Hp} {a : Addr} {vs : List V} (h : SqT K H a vs) (q : ∀ o, H a = some o → H' a = some o) : SqT K H' a vs := by
  rcases h with (h | ⟨o, h⟩) | h
  · exact .inl (.inl (q _ h))
  · exact .inl (.inr ⟨o, q _ h⟩)
  · exact .inr h
theorem walk_of {K : Frag} {w : World} {Ob Os M : List Addr} {H H1 : Hp} {x : Fl × D} {vx : V} {a : CE} {ds : List D} {σ : L2.St} (n : NoT H (Os ++ Ob)) (dj : ∀ a, a ∈ Os → a ∉ Ob) (s : Same H H1) (r : FlR K w Ob Os H H1 x.2 vx x.1)
    (hw : x.1.isUn = true → imms ds = true) (hM : (∀ a ∈ M, a ∈ Ob) ∨ ((∀ a ∈ M, a ∈ Os ++ Ob) ∧ solid a x.1 x.2 = true ∧ (x.1 = .ow → ∀ b, vx = .ref b → b ∉ M))) (hun : x.1 = .un → isVar a = false) : Walk K w Ob Os M H1 x vx ds := by
  obtain ⟨f, d⟩ := x
  have nn := n.same s
  have sub : ∀ a ∈ M, a ∈ Os ++ Ob := by
    rcases hM with h | h
    · exact fun a z => List.mem_append_right _ (h a z)
    · exact h.1
  have sameO : ∀ {H'}, Same (Hm H1 M) H' → Same (Hm H1 (Os ++ Ob)) H' := fun z => same_hm z sub
  cases f with
  | st =>
    have r : Rep K w (Hm H1 (Os ++ Ob)) d vx := r
    constructor
    · intro e
      have e : d = .lst ds := e
      subst e
      cases r with
      | lst h hs => exact ⟨_, _, rfl, hs, fun H' z => SqL.of (sameO z _ _ h)⟩
    · intro e
      have e : d = .tup ds := e
      subst e
      cases r with
      | tup h hs => exact ⟨_, _, rfl, hs, fun H' z => sqT_same (sameO z) h.sq⟩
  | fr =>
    obtain ⟨b, rfl, hb, c⟩ := r
    have nb : b ∉ Os ++ Ob := noT_out n hb
    constructor
    · intro e
      have e : d = .lst ds := e
      subst e
      cases c with
      | lst h hs =>
        refine ⟨_, _, rfl, hs.same (Hm_sub fun a z => List.mem_cons_of_mem _ z), fun H' z => SqL.of (z _ _ ?_)⟩
        rw [Hm_at fun q => nb (sub b q)]; exact h
    · intro e
      have e : d = .tup ds := e
      subst e
      cases c
  | ow =>
    obtain ⟨b, rfl, hb, c⟩ := r
    have nb : b ∉ M := by
      rcases hM with h | ⟨_, _, h⟩
      · exact fun z => dj b hb (h b z)
      · exact h rfl b rfl
    constructor
    · intro e
      have e : d = .lst ds := e
      subst e
      cases c with
      | lst h hs =>
        refine ⟨_, _, rfl, hs, fun H' z => SqL.of (z _ _ ?_)⟩
        rw [Hm_at nb]; exact h
    · intro e
      have e : d = .tup ds := e
      subst e
      cases c
  | un =>
    have r : Rep K w (Hm H1 Ob) d vx := r
    have im := hw rfl
    constructor
    · intro e
      have e : d = .lst ds := e
      subst e
      cases r with
      | lst h hs =>
        refine ⟨_, _, rfl, (hs.same Hm_same).imm nn im, fun H' z => ?_⟩
        rcases hM with hM | ⟨_, hs, _⟩
        · exact SqL.of (same_hm z hM _ _ h)
        · have e0 := hun rfl
          unfold solid at hs
          rw [e0] at hs
          cases hs
    · intro e
      have e : d = .tup ds := e
      subst e
      cases r with
      | tup h hs =>
        refine ⟨_, _, rfl, (hs.same Hm_same).imm nn im, fun H' z => ?_⟩
        have h1 := (h.same Hm_same : TupAt K H1 _ _)
        rcases h1 with ⟨o, h1, _⟩ | ⟨o, its, k, h1, h2, _, h3⟩
        · refine .inl (.inr ⟨o, z _ _ ?_⟩)
          rw [Hm_at fun q => (nn _ (sub _ q)).2 _ (.inr ⟨o, h1⟩)]
          exact h1
        · exact .inr ⟨o, its, k, h1, h2, h3⟩
theorem itl_ok {pr : Bool} {K : Frag} {w : World} {F : Hp} {M : List Addr} {H1 : Hp} {b : Addr} {ds : List D} {vs : List V} (hr : Reps K w F ds vs) (hq : ∀ H', Same (Hm H1 M) H' → SqL K H' b vs) : ItOk pr K w F M H1 (Itl K b) ds := fun i H' s =>
  ⟨fun h => ⟨vs, hq H' s, by rw [← hr.length]; exact h⟩, fun d e => by
    obtain ⟨v, e1, rv⟩ := hr.get e
    refine ⟨⟨vs, v, hq H' s, e1⟩, fun x H'' y => ?_⟩
    obtain ⟨rfl, y⟩ := y
    have e2 := y vs (hq _ s)
    rw [e1] at e2; cases e2
    exact ⟨Same.refl _, .inl rv⟩⟩
theorem itt_ok {pr : Bool} {K : Frag} {w : World} {F : Hp} {M : List Addr} {H1 : Hp} {b : Addr} {ds : List D} {vs : List V} (hr : Reps K w F ds vs) (hq : ∀ H', Same (Hm H1 M) H' → SqT K H' b vs) : ItOk pr K w F M H1 (Itt K b) ds := fun i H' s =>
  ⟨fun h => ⟨vs, hq H' s, by rw [← hr.length]; exact h⟩, fun d e => by
    obtain ⟨v, e1, rv⟩ := hr.get e
    refine ⟨⟨vs, v, hq H' s, e1⟩, fun x H'' y => ?_⟩
    obtain ⟨rfl, y⟩ := y
    have e2 := y vs (hq _ s)
    rw [e1] at e2; cases e2
    exact ⟨Same.refl _, .inl rv⟩⟩
theorem its_ok {pr : Bool} {K : Frag} {w : World} {F : Hp} {M : List Addr} {H1 : Hp} {z : List Nat} : ItOk pr K w F M H1 (Its (sv z)) (z.map fun c => .str [c]) := fun i H' s =>
  ⟨fun h => by
    show (sv z).cps.size ≤ i
    simpa using h, fun d e => by
    rw [List.getElem?_map] at e
    cases e1 : z[i]? with
    | none => rw [e1] at e; cases e
    | some c =>
      rw [e1] at e
      cases e
      refine ⟨?_, fun x H'' y => ?_⟩
      · show i < (sv z).cps.size
        have := (List.getElem?_eq_some_iff.mp e1).1
        simpa using this
      · obtain ⟨rfl, c', e2, rfl⟩ := y
        have e2 : z.toArray[i]? = some c' := e2
        rw [List.getElem?_toArray, e1] at e2
        cases e2
        exact ⟨Same.refl _, .inl (.str [c])⟩⟩
theorem rangeD_len : ∀ (n : Nat) (lo : Int), (rangeD lo n).length = n
  | 0, _ => rfl
  | n + 1, lo => congrArg (· + 1) (rangeD_len n (lo + 1))
theorem rangeD_get : ∀ (n : Nat) (lo : Int) (i : Nat), i < n → (rangeD lo n)[i]? = some (.int (lo + i))
  | n + 1, lo, 0, _ => by simp [rangeD]
  | n + 1, lo, i + 1, h => by
    rw [rangeD, List.getElem?_cons_succ, rangeD_get n (lo + 1) i (by omega)]
    have : lo + 1 + (i : Int) = lo + ((i + 1 : Nat) : Int) := by omega
    rw [this]
theorem itr_ok {pr : Bool} {K : Frag} {w : World} {F : Hp} {M : List Addr} {H1 : Hp} {lo : Int} {n : Nat} : ItOk pr K w F M H1 (Itr lo n) (rangeD lo n) := fun i H' s =>
  ⟨fun h => by rw [rangeD_len] at h; exact h, fun d e => by
    have hi : i < n := by
      have := (List.getElem?_eq_some_iff.mp e).1
      rwa [rangeD_len] at this
    rw [rangeD_get n lo i hi] at e
    cases e
    refine ⟨hi, fun x H'' y => ?_⟩
    obtain ⟨rfl, rfl⟩ := y
    exact ⟨Same.refl _, .inl (.int _)⟩⟩

def tWalkT (X : Cx) (te : TE) : TI := fun σ H R => te σ H fun x H1 => ∃ a, x = .ref a ∧ (∃ xs, SqL X.K H1 a xs) ∧ R (Itl X.K a) H1
/-- a value is walked: list, tuple or str by what it is -/
def tSeq (K : Frag) (te : TE) : TI := fun σ H R => te σ H fun x H1 => (∃ a, x = .ref a ∧ (∃ xs, SqL K H1 a xs) ∧ R (Itl K a) H1) ∨ (∃ a, x = .ref a ∧ (∃ xs, SqT K H1 a xs) ∧ R (Itt K a) H1) ∨ ∃ z, x = .str z ∧ R (Its z) H1
theorem pi_seq {e : Expr} {te : TE} (he : PE X e te) : PI X tg e (tSeq X.K te) := by
  refine ⟨fun pins s σ H R I h => ?_⟩
  refine thn (he.run pins s σ H _ I h) fun v s1 ⟨x, H1, I1, r1, q1⟩ => ?_
  -- each of the three, from the value on
  have go : ∀ {t : TI}, PI { X with xe := X.xe } tg e t → True := fun _ => trivial
  rcases q1 with ⟨a, rfl, ⟨xs, hq⟩, q⟩ | ⟨a, rfl, ⟨xs, hq⟩, q⟩ | ⟨z, rfl, q⟩
  · cases r1
    obtain ⟨its, rv, p, hz⟩ := I1.list hq
    refine wpAny_pyIter_list p.isList ?_
    refine ⟨s1.heap.objs.size, [s1.heap.objs.size], _, _, H1, rfl, I1.kept (t' := s1.toks) fun b o e => Heap.get?_push_of_some _ e, turn_list a _, ⟨_, Heap.get?_push_size _ rfl, rfl, rfl⟩, fun b hb => ?_, q⟩
    have e : b = s1.heap.objs.size := by simpa using hb
    subst e
    exact I1.fpOk (Nat.le_refl _) (I1.hok.fresh (Nat.le_refl _))
  · cases r1
    obtain ⟨its, rv, p, hz⟩ := I1.tuple hq
    refine wpAny_pyIter_tuple (show s1.heap.IsTuple a its.toArray from p) ?_
    refine ⟨s1.heap.objs.size, [s1.heap.objs.size], _, _, H1, rfl, I1.kept (t' := s1.toks) fun b o e => Heap.get?_push_of_some _ e, turn_tuple a _, ⟨_, Heap.get?_push_size _ rfl, rfl, rfl⟩, fun b hb => ?_, q⟩
    have e : b = s1.heap.objs.size := by simpa using hb
    subst e
    exact I1.fpOk (Nat.le_refl _) (I1.hok.fresh (Nat.le_refl _))
  · obtain ⟨t, rfl⟩ := r1
    cases ha : z.cps.all (· < 128)
    · exact wpAny_pyIter_wide ha (pi_one (tk := s1.toks) I1 _ (turn_str _ z t "str_iterator" (.inr rfl)) ⟨_, Heap.get?_push_size _ rfl, rfl, rfl⟩ q)
    · exact wpAny_pyIter_ascii ha (pi_one (tk := s1.toks) I1 _ (turn_str _ z t "str_ascii_iterator" (.inl rfl)) ⟨_, Heap.get?_push_size _ rfl, rfl, rfl⟩ q)
theorem un_var {env : Env} {i : Nat} {x : Fl × D} (h : evE G.T G.cl env (.var i) = some (.ok x)) : x.1 ≠ .un := by
  rw [evE] at h
  cases e : getS env i with
  | none => rw [e] at h; cases h
  | some p =>
    obtain ⟨sf, d⟩ := p
    rw [e] at h
    cases sf <;> (cases h; exact fun z => nomatch z)
theorem ow_var {Ob Os : List Addr} {env : Env} {σ : L2.St} {H : Hp} {c : CE} {x : Fl × D} (h : evE G.T G.cl env c = some (.ok x)) (e : x.1 = .ow) : isVar c = true → True := fun _ => trivial

theorem i_seq {a : CE} {e : Expr} (hK : X.K = G.K) (he : PE X e (tE' G W a)) : PI X tg e (tI G W (.seq a)) := by
  refine (pi_seq he).weak fun σ H R ⟨Ob, Os, env, S, h⟩ => ⟨Ob, Os, env, S, ?_⟩
  rw [evI] at h
  rw [hK]
  cases ex : evE G.T G.cl env a with
  | none => rw [ex] at h; exact h
  | some r =>
    rw [ex] at h
    cases r with
    | ex c p => exact h
    | ok x =>
      rw [M.bind_ok] at h
      refine fun vx H1 s rx hvx => ?_
      obtain ⟨f, d⟩ := x
      have hun : f = .un → isVar a = false := fun z => by
        cases a with
        | var i => exact absurd z (un_var (x := (f, d)) ex)
        | _ => rfl
      -- the walked objects' own place
      have hM : ∀ M, MOk Ob Os env (.seq a) (solid a f d) M → (∀ a ∈ M, a ∈ Ob) ∨ ((∀ a ∈ M, a ∈ Os ++ Ob) ∧ solid a f d = true ∧ (f = .ow → ∀ b, vx = .ref b → b ∉ M)) := fun M h => by
        rcases h with h | ⟨h1, h2, h3⟩
        · exact .inl h
        · refine .inr ⟨h1, h2, fun ef b eb => ?_⟩
          subst ef
          subst eb
          cases a with
          | var i =>
            rw [evE] at ex
            unfold getS at ex
            cases eo : env[i]? with
            | none => rw [eo] at ex; cases ex
            | some sl =>
              rw [eo] at ex
              cases sl with
              | none => cases ex
              | some q =>
                obtain ⟨sf, d'⟩ := q
                cases sf with
                | fz => cases ex
                | ow => exact absurd eo (h3 i (by simp [ciVars]) d')
          | _ =>
            obtain ⟨b', e', hb', c⟩ := rx
            have := c.box
            unfold solid at h2
            rw [this] at h2
            cases h2
      cases d with
      | lst ds =>
        cases hw : walkable f ds with
        | none => simp only [itemsOf, Option.bind_some, hw, Option.map_none, liftM] at h; exact h.elim
        | some ds' =>
          have e2 : ds' = ds := by
            unfold walkable at hw
            split at hw
            · cases hw
            · exact (Option.some.inj hw).symm
          subst e2
          simp only [itemsOf, Option.bind_some, hw, Option.map_some, liftM] at h
          have him : f.isUn = true → imms ds' = true := fun z => by
            unfold walkable at hw
            rw [z] at hw
            cases q : imms ds' with
            | true => rfl
            | false => rw [q] at hw; cases hw
          have W0 := fun M (hm : MOk Ob Os env (.seq a) (solid a f (.lst ds')) M) => walk_of (x := (f, .lst ds')) (σ := σ) (a := a) (ds := ds') S.noT S.dj s rx him (hM M hm) hun
          obtain ⟨b, vs, rfl, _, hq⟩ := (W0 [] (.inl (by simp))).lst rfl
          refine .inl ⟨b, rfl, ⟨vs, hq H1 Hm_same⟩, h _ H1 s fun M hm => ?_⟩
          obtain ⟨b', vs', e', hr, hq'⟩ := (W0 M hm).lst rfl
          cases e'
          exact itl_ok hr hq'
      | tup ds =>
        cases hw : walkable f ds with
        | none => simp only [itemsOf, Option.bind_some, hw, Option.map_none, liftM] at h; exact h.elim
        | some ds' =>
          have e2 : ds' = ds := by
            unfold walkable at hw
            split at hw
            · cases hw
            · exact (Option.some.inj hw).symm
          subst e2
          simp only [itemsOf, Option.bind_some, hw, Option.map_some, liftM] at h
          have him : f.isUn = true → imms ds' = true := fun z => by
            unfold walkable at hw
            rw [z] at hw
            cases q : imms ds' with
            | true => rfl
            | false => rw [q] at hw; cases hw
          have W0 := fun M (hm : MOk Ob Os env (.seq a) (solid a f (.tup ds')) M) => walk_of (x := (f, .tup ds')) (σ := σ) (a := a) (ds := ds') S.noT S.dj s rx him (hM M hm) hun
          obtain ⟨b, vs, rfl, _, hq⟩ := (W0 [] (.inl (by simp))).tup rfl
          refine .inr (.inl ⟨b, rfl, ⟨vs, hq H1 Hm_same⟩, h _ H1 s fun M hm => ?_⟩)
          obtain ⟨b', vs', e', hr, hq'⟩ := (W0 M hm).tup rfl
          cases e'
          exact itt_ok hr hq'
      | str z =>
        have rr := rx.rep
        cases rr
        refine .inr (.inr ⟨sv z, rfl, ?_⟩)
        cases hl : lenLe z line with
        | false => simp only [itemsOf, hl] at h; exact h.elim
        | true =>
          simp only [itemsOf, hl, if_true, Option.bind_some] at h
          cases hw : walkable f (z.map fun c => .str [c]) with
          | none => simp only [hw, Option.map_none, liftM] at h; exact h.elim
          | some ds' =>
            have e2 : ds' = z.map fun c => .str [c] := by
              unfold walkable at hw
              split at hw
              · cases hw
              · exact (Option.some.inj hw).symm
            simp only [hw, Option.map_some, liftM] at h
            exact h _ H1 s fun M hm => by rw [e2]; exact its_ok
      | dct ks vs => exact h.elim
      | non => exact h.elim
      | bl b => exact h.elim
      | int i => exact h.elim
      | set ds => exact h.elim
end
end Ev

end
section
/-! Ev6: ranges, targets, comprehensions. -/
set_option autoImplicit false
set_option linter.all false
set_option Elab.async false
set_option maxRecDepth 100000
set_option maxHeartbeats 4000000
namespace Ev
open PySem PySem.Spec PyProof.Rows L2

section
variable {G : Lg} {X : Cx} {W : WX} {tg : Expr}
theorem in62_le {i : Int} (h : in62 i = true) : -(2 ^ 62) ≤ i ∧ i < 2 ^ 62 := by
  unfold in62 at h
  simpa using h
theorem i_rng1 {a : CE} {e : Expr} {p pos : Pos} (hg : Gl X "range") (hm : X.mg "range" = none) (ha : PA X [e] (tA G W (.cons a .nil))) (hs : NoStar X [e]) : PI X tg (.Call (.Name "range" p) [e] [] pos) (tI G W (.rng (.cons a .nil))) := by
  refine (pi_range1 hg hm ha hs).weak fun σ H R ⟨Ob, Os, env, S, h⟩ => ?_
  rw [evI] at h
  refine many' S h fun xs vs H' hx s r hq => ?_
  cases r with
  | nil => cases hx
  | @cons x v xs vs r rr =>
    cases rr with
    | cons r2 rr => cases hx
    | nil =>
      obtain ⟨f, d⟩ := x
      cases d with
      | int j =>
        have e := r.rep
        cases e
        simp only [Ev.vals, evRng] at hq
        cases c : in62 j && decide (j ≤ (line : Int)) with
        | false => simp only [c] at hq; exact hq.elim
        | true =>
          simp only [c, if_true, Option.map_some, liftM] at hq
          rw [Bool.and_eq_true] at c
          obtain ⟨l1, l2⟩ := in62_le c.1
          exact ⟨j, rfl, l1, l2, hq _ H' s fun M _ => itr_ok⟩
      | _ => exact hq.elim
theorem i_rng2 {a b : CE} {e e2 : Expr} {p pos : Pos} (hg : Gl X "range") (hm : X.mg "range" = none) (ha : PA X [e, e2] (tA G W (.cons a (.cons b .nil)))) (hs : NoStar X [e, e2]) (hs2 : NoStar X [e2]) : PI X tg (.Call (.Name "range" p) [e, e2] [] pos) (tI G W (.rng (.cons a (.cons b .nil)))) := by
  refine (pi_range2 hg hm ha hs hs2).weak fun σ H R ⟨Ob, Os, env, S, h⟩ => ?_
  rw [evI] at h
  refine many' S h fun xs vs H' hx s r hq => ?_
  cases r with
  | nil => cases hx
  | @cons x v xs vs r rr =>
    cases rr with
    | nil => cases hx
    | @cons y v2 xs vs r2 rr =>
      cases rr with
      | cons r3 rr => cases hx
      | nil =>
        obtain ⟨f, d⟩ := x
        obtain ⟨f2, d2⟩ := y
        cases d with
        | int i =>
          cases d2 with
          | int j =>
            have e := r.rep
            cases e
            have e := r2.rep
            cases e
            simp only [Ev.vals, evRng] at hq
            cases c : in62 i && in62 j && decide (j - i ≤ (line : Int)) with
            | false => simp only [c] at hq; exact hq.elim
            | true =>
              simp only [c, if_true, Option.map_some, liftM] at hq
              simp only [Bool.and_eq_true] at c
              obtain ⟨l1, l2⟩ := in62_le c.1.1
              obtain ⟨l3, l4⟩ := in62_le c.1.2
              exact ⟨i, j, rfl, ⟨l1, l2, l3, l4⟩, hq _ H' s fun M _ => itr_ok⟩
          | _ => exact hq.elim
        | _ => exact hq.elim
end

/-! ### slots -/
section
variable {K : Frag} {w : World} {Ob Os : List Addr} {env : Env} {σ : L2.St} {H : Hp}
theorem StRel.put (S : StRel K w Ob Os env σ H) (i : Nat) (sl : Slot) (o : Option V) (h : ∀ sf d, sl = some (sf, d) → sf = .fz ∧ ∃ v, o = some v ∧ Rep K w (Hm H (Os ++ Ob)) d v) : StRel K w Ob Os (env.set i sl) (σ.set i o) H where
  len := by rw [List.length_set, List.length_set]; exact S.len
  slot := fun j sf d e => by
    by_cases hj : i = j
    · subst hj
      by_cases hi : i < env.length
      · rw [List.getElem?_set_self hi] at e
        obtain ⟨rfl, v, rfl, r⟩ := h sf d (Option.some.inj e)
        exact ⟨v, by rw [List.getElem?_set_self (by rw [← S.len]; exact hi)], r⟩
      · rw [List.getElem?_eq_none (by rw [List.length_set]; omega)] at e
        cases e
    · rw [List.getElem?_set_ne hj] at e ⊢
      exact S.slot j sf d e
  inj := fun i1 j1 sf sg d e b h1 h2 n1 n2 k1 k2 => by
    have q : ∀ {j sf d}, (env.set i sl)[j]? = some (some (sf, d)) → sf ≠ .fz → i ≠ j := fun {j sf d} e n hj => by
      subst hj
      by_cases hi : i < env.length
      · rw [List.getElem?_set_self hi] at e
        exact n (h sf d (Option.some.inj e)).1
      · rw [List.getElem?_eq_none (by rw [List.length_set]; omega)] at e
        cases e
    have a1 := q h1 n1
    have a2 := q h2 n2
    rw [List.getElem?_set_ne a1] at h1 k1
    rw [List.getElem?_set_ne a2] at h2 k2
    exact S.inj i1 j1 sf sg d e b h1 h2 n1 n2 k1 k2
  noT := S.noT
  dj := S.dj
theorem StRel.setFz (S : StRel K w Ob Os env σ H) {i : Nat} {d : D} {v : V} (h : Rep K w (Hm H (Os ++ Ob)) d v) : StRel K w Ob Os (env.set i (some (.fz, d))) (σ.set i (some v)) H :=
  S.put i _ _ fun sf d' e => by cases e; exact ⟨rfl, v, rfl, h⟩
theorem StRel.wipe (S : StRel K w Ob Os env σ H) : ∀ vs : List Nat, StRel K w Ob Os (wipeE env vs) (L2.wipe σ vs) H
  | [] => S
  | v :: vs => (StRel.wipe S vs).put v none none fun sf d e => by cases e
/-- another outer's object more -/
theorem StRel.moreOb (S : StRel K w Ob Os env σ H) {b : Addr} {H' : Hp} (s : Same H H') (hb : H b = none) (n : ∃ o, H' b = some o ∧ ∀ vs, ¬ Rd H' b (.tup vs)) : StRel K w (b :: Ob) Os env σ H' := by
  have sub : Same (Hm H (Os ++ Ob)) (Hm H' (Os ++ b :: Ob)) := Hm_mono (fun a o e _ => s a o e) fun a h => by
    rcases List.mem_append.mp h with h | h
    · exact .inl (List.mem_append_left _ h)
    · rcases List.mem_cons.mp h with h | h
      · exact .inr (by rw [h]; exact hb)
      · exact .inl (List.mem_append_right _ h)
  have nn := S.noT.same s
  exact {
    len := S.len
    slot := fun i sf d e => by
      obtain ⟨v, h1, h2⟩ := S.slot i sf d e
      refine ⟨v, h1, ?_⟩
      cases sf with
      | fz => exact Rep.same sub h2
      | ow =>
        obtain ⟨b', e, hb', c⟩ := h2
        exact ⟨b', e, hb', c.same sub fun o z => s _ _ z⟩
    inj := S.inj
    noT := fun a h => by
      rcases List.mem_append.mp h with h | h
      · exact nn a (List.mem_append_left _ h)
      · rcases List.mem_cons.mp h with h | h
        · subst h
          obtain ⟨o, e, q⟩ := n
          exact ⟨by rw [e]; simp, q⟩
        · exact nn a (List.mem_append_right _ h)
    dj := fun a h z => by
      rcases List.mem_cons.mp z with z | z
      · subst z
        exact (S.noT a (List.mem_append_left _ h)).1 hb
      · exact S.dj a h z }
end

/-! ### targets -/
mutual
def pvars : Pat → List Nat
  | .var i => [i]
  | .tup ps => pvarss ps
def pvarss : List Pat → List Nat
  | [] => []
  | p :: ps => pvars p ++ pvarss ps
end
def isTupP : Pat → Bool
  | .tup _ => true
  | _ => false
theorem bindPs_len : ∀ {ps : List Pat} {ds : List D} {env env' : Env}, bindPs env ps ds = some env' → ps.length = ds.length
  | [], [], _, _, _ => rfl
  | [], _ :: _, _, _, h => by simp [bindPs] at h
  | _ :: _, [], _, _, h => by simp [bindPs] at h
  | p :: ps, d :: ds, env, env', h => by
    rw [bindPs] at h
    cases e : bindP env p d with
    | none => rw [e] at h; cases h
    | some e1 => rw [e] at h; exact congrArg (· + 1) (bindPs_len (env := e1) h)
section
variable (G : Lg)
def tG (p : Pat) : TG := fun v σ H Q => ∃ Ob Os env F d env' pr, StRel G.K G.w Ob Os env σ H ∧ Same F (Hm H (Os ++ Ob)) ∧ ItemR pr G.K G.w F H d v ∧ (pr = true → isTupP p = true) ∧ bindP env p d = some env' ∧
  ∀ σ', StRel G.K G.w Ob Os env' σ' H → (∀ j, j ∉ pvars p → σ'[j]? = σ[j]?) → σ'.length = σ.length → Q σ' H
def tGs (ps : List Pat) : TGs := fun vs σ H Q => ∃ Ob Os env F ds env', StRel G.K G.w Ob Os env σ H ∧ Same F (Hm H (Os ++ Ob)) ∧ Reps G.K G.w F ds vs ∧ bindPs env ps ds = some env' ∧
  ∀ σ', StRel G.K G.w Ob Os env' σ' H → (∀ j, j ∉ pvarss ps → σ'[j]? = σ[j]?) → σ'.length = σ.length → Q σ' H
end
section
variable {G : Lg} {X : Cx} {W : WX} {pos : Pos}
theorem g_name {i : Nat} {x : Str} (hN : X.N.Nodup) (hi : X.N[i]? = some x) (hx : X.env.scope.names.lookup x = some .local ∨ (X.env.scope.names.lookup x = some .cell ∧ X.fn x = true)) : PG X (.Name x pos) (tG G (.var i)) := by
  have base : PG X (.Name x pos) (gName i) := by
    rcases hx with h | ⟨h, hf⟩
    · exact pg_name hN hi (.inl h) (.inr h)
    · exact pg_name hN hi (.inr h) (.inl hf)
  refine base.weak fun v σ H Q ⟨Ob, Os, env, F, d, env', pr, S, s, hr, hp, hb, q⟩ => ?_
  rw [bindP] at hb
  cases hb
  have r : Rep G.K G.w F d v := by
    rcases hr with r | ⟨e, _⟩
    · exact r
    · exact nomatch hp e
  refine q _ (S.setFz (r.same s)) (fun j hj => ?_) (by rw [List.length_set])
  rw [List.getElem?_set_ne fun e => hj (by rw [pvars, e]; exact List.mem_cons_self)]
theorem gs_nil : PGs X [] (tGs G []) := pgs_nil.weak fun vs σ H Q ⟨Ob, Os, env, F, ds, env', S, s, r, hb, q⟩ => by
  cases r with
  | nil => rw [bindPs] at hb; cases hb; exact ⟨rfl, q σ S (fun _ _ => rfl) rfl⟩
  | cons _ _ => simp [bindPs] at hb
theorem gs_cons {p : Pat} {ps : List Pat} {e : Expr} {es : List Expr} (h1 : PG X e (tG G p)) (h2 : PGs X es (tGs G ps)) (hs : (assignEach (e :: es) X.env).map (·.2) = assign e X.env :: (assignEach es X.env).map (·.2)) : PGs X (e :: es) (tGs G (p :: ps)) := by
  refine (pgs_cons h1 h2 hs).weak fun vs σ H Q ⟨Ob, Os, env, F, ds, env', S, s, r, hb, q⟩ => ?_
  cases r with
  | nil => simp [bindPs] at hb
  | @cons d ds v vs r rr =>
    rw [bindPs] at hb
    cases e : bindP env p d with
    | none => rw [e] at hb; cases hb
    | some e1 =>
      rw [e] at hb
      refine ⟨v, vs, rfl, Ob, Os, env, F, d, e1, false, S, s, .inl r, fun z => (nomatch z), e, fun σ1 S1 f1 l1 => ?_⟩
      refine ⟨Ob, Os, e1, F, ds, env', S1, s, rr, hb, fun σ2 S2 f2 l2 => q σ2 S2 (fun j hj => ?_) (l2.trans l1)⟩
      rw [pvarss, List.mem_append, not_or] at hj
      exact (f2 j hj.2).trans (f1 j hj.1)
def NoStarT (X : Cx) (es : List Expr) : Prop := assignEach es X.env = es.map fun e => (false, assign e X.env)
theorem g_tup {ps : List Pat} {es : List Expr} {k : Nat} (hK : X.K = G.K) (hc : X.calm = true) (h : PGs X es (tGs G ps)) (hl : es.length = ps.length) (hn : NoStarT X es) : PG X (.Tuple es k pos) (tG G (.tup ps)) := by
  have l0 : (assignEach es X.env).length = es.length := by rw [hn, List.length_map]
  have f0 : (assignEach es X.env).findIdx? (·.1) = none := by
    rw [hn, List.findIdx?_eq_none_iff]
    intro x hx
    obtain ⟨e, _, rfl⟩ := List.mem_map.mp hx
    rfl
  have b1 := pg_tup (k := k) (pos := pos) (n := es.length) hc h l0 f0
  have b2 := pg_lst (k := k) (pos := pos) (n := es.length) hc h l0 f0
  refine ⟨fun pins s σ H v u Q I r hw => ?_⟩
  obtain ⟨Ob, Os, env, F, d, env', pr, S, sm, hr, hp, hb, q⟩ := hw
  have tup : ∀ {T : Addr} {vs : List V} {ds : List D}, d = .tup ds → v = .ref T → SqT X.K H T vs → Reps G.K G.w F ds vs → wpAny (model X.prog X.w) X.A (assign (.Tuple es k pos) X.env u) (fun _ s' => ∃ σ' H', Inv X pins σ' H' s' ∧ Q σ' H') X.xe s := fun {T vs ds} e1 e2 h1 h2 => by
    subst e1
    rw [bindP] at hb
    exact b1.run pins s σ H v u Q I r ⟨T, vs, e2, h1, by rw [← h2.length, ← bindPs_len hb, hl], Ob, Os, env, F, ds, env', S, sm, h2, hb, fun σ' S' f l => q σ' S' (by rw [pvars]; exact f) l⟩
  rcases hr with hr | ⟨_, T, vs, ds, rfl, rfl, h1, h2⟩
  · cases hr with
    | tup h1 h2 =>
      have s0 : Same F H := sm.trans Hm_same
      exact tup rfl rfl (by rw [hK]; exact sqT_same s0 h1.sq) h2
    | @lst ds a vs h1 h2 =>
      have s0 : Same F H := sm.trans Hm_same
      rw [bindP] at hb
      exact b2.run pins s σ H _ u Q I r ⟨a, vs, rfl, SqL.of (s0 _ _ h1), by rw [← h2.length, ← bindPs_len hb, hl], Ob, Os, env, F, ds, env', S, sm, h2, hb, fun σ' S' f l => q σ' S' (by rw [pvars]; exact f) l⟩
    | _ => simp [bindP] at hb
  · exact tup rfl rfl (by rw [hK]; exact h1) h2

/-! ### tests of a clause -/
theorem ts_nil : PTs X [] (tTs G W .nil) := pts_nil.weak fun σ H Q ⟨Ob, Os, env, S, h⟩ => by
  rw [evTs] at h
  exact h H (Same.refl H)
theorem ts_one {c : CE} {e : Expr} (h : PT X e (tT G W c)) : PTs X [e] (tTs G W (.cons c .nil)) := (pts_one h).weak fun σ H Q ⟨Ob, Os, env, S, h⟩ => by
  refine ⟨Ob, Os, env, S, ?_⟩
  rw [evTs] at h
  cases e : evE G.T G.cl env c with
  | none => rw [e] at h; exact h.elim
  | some r =>
    rw [e] at h
    cases r with
    | ex c p => exact h
    | ok x =>
      simp only [M.bind_ok] at h ⊢
      cases e2 : truth x.2 with
      | none => rw [e2] at h; exact h.elim
      | some b =>
        rw [e2] at h
        cases b with
        | true => simp only [evTs] at h; exact h
        | false => exact h

/-! ### comprehensions -/
theorem calmM_ok {α : Type} {m : M α} {a : α} (h : calmM m = some (.ok a)) : m = some (.ok a) := by
  cases m with
  | none => exact nomatch h
  | some r => cases r with
    | ok b => exact h
    | ex c p => exact nomatch h
theorem calmM_ex {α : Type} {m : M α} {c : Nat} {p : List D} (h : calmM m = some (.ex c p)) : False := by
  cases m with
  | none => exact nomatch h
  | some r => cases r <;> exact nomatch h
abbrev W0 : WX := fun _ _ _ _ => False
theorem Hm_in {H : Hp} {O : List Addr} {a : Addr} {o : HO} (h : a ∈ O) : Hm (upd H a o) O = Hm H O := by
  funext b
  unfold Hm
  by_cases hb : b ∈ O
  · rw [if_pos hb, if_pos hb]
  · rw [if_neg hb, if_neg hb, upd_ne]
    exact fun e => hb (by rw [e]; exact h)
theorem wipe_eq {σ σ' : L2.St} : ∀ {vs : List Nat}, σ'.length = σ.length → (∀ j, j ∉ vs → σ'[j]? = σ[j]?) → L2.wipe σ' vs = L2.wipe σ vs := by
  intro vs hl h
  apply List.ext_getElem?
  intro j
  have none_of : ∀ (τ : L2.St) (vs : List Nat), j ∈ vs → j < τ.length → (L2.wipe τ vs)[j]? = some none := by
    intro τ vs
    induction vs with
    | nil => intro h; cases h
    | cons v r ih =>
      intro hm hlt
      unfold L2.wipe
      by_cases e : v = j
      · subst e
        rw [List.getElem?_set_self (by rw [wipe_length]; exact hlt)]
      · rw [List.getElem?_set_ne e]
        exact ih (by rcases List.mem_cons.mp hm with z | z
                     · exact absurd z.symm e
                     · exact z) hlt
  by_cases hj : j ∈ vs
  · by_cases hlt : j < σ.length
    · rw [none_of σ vs hj hlt, none_of σ' vs hj (by rw [hl]; exact hlt)]
    · rw [List.getElem?_eq_none (by rw [wipe_length]; omega), List.getElem?_eq_none (by rw [wipe_length]; omega)]
  · rw [wipe_out hj, wipe_out hj]
    exact h j hj
theorem wipe_wipe {σ : L2.St} {vs : List Nat} : L2.wipe (L2.wipe σ vs) vs = L2.wipe σ vs := wipe_eq (wipe_length σ vs) fun j hj => wipe_out hj
theorem turns_at {f : D → M (Option D)} {ds : List D} {i : Nat} {r : List D} {d : D} (h : turns f (ds.drop i) = some (.ok r)) (e : ds[i]? = some d) : ∃ o r', f d = some (.ok o) ∧ turns f (ds.drop (i + 1)) = some (.ok r') ∧ r = o.toList ++ r' := by
  have hi := (List.getElem?_eq_some_iff.mp e).1
  have e2 : ds.drop i = d :: ds.drop (i + 1) := by
    rw [List.drop_eq_getElem_cons hi]
    have := (List.getElem?_eq_some_iff.mp e).2
    rw [this]
  rw [e2, turns] at h
  cases e3 : f d with
  | none => rw [e3] at h; cases h
  | some q =>
    rw [e3] at h
    cases q with
    | ex c p => cases h
    | ok o =>
      rw [M.bind_ok] at h
      cases e4 : turns f (ds.drop (i + 1)) with
      | none => rw [e4] at h; cases h
      | some q =>
        rw [e4] at h
        cases q with
        | ex c p => cases h
        | ok r' =>
          rw [M.bind_ok] at h
          cases o with
          | none => cases h; exact ⟨none, r, rfl, rfl, rfl⟩
          | some d' => cases h; exact ⟨some d', r', rfl, rfl, rfl⟩
theorem turns_ex {f : D → M (Option D)} (hf : ∀ d c p, f d ≠ some (.ex c p)) : ∀ {ds : List D} {c : Nat} {p : List D}, turns f ds ≠ some (.ex c p)
  | [], c, p => by rw [turns]; exact fun z => nomatch z
  | d :: ds, c, p => by
    rw [turns]
    cases e : f d with
    | none => exact fun z => nomatch z
    | some r =>
      cases r with
      | ex c' p' => exact absurd e (hf d c' p')
      | ok o =>
        rw [M.bind_ok]
        cases e2 : turns f ds with
        | none => exact fun z => nomatch z
        | some r =>
          cases r with
          | ex c' p' => exact absurd e2 (turns_ex hf)
          | ok r => cases o <;> exact fun z => nomatch z

/-- the turn of a comprehension in its block: what the evaluator does there -/
def compF (G : Lg) (env : Env) (vs : List Nat) (t : Pat) (ifs : CEs) (elt : CE) (d : D) : M (Option D) := match bindP (wipeE env vs) t d with
  | some env1 => calmM ((evTs G.T G.cl env1 ifs).bind fun b => if b then
      (evE G.T G.cl env1 elt).bind fun y => if y.1.still y.2 then okM (some y.2) else none
    else okM none)
  | none => none
theorem compF_ex {env : Env} {vs : List Nat} {t : Pat} {ifs : CEs} {elt : CE} (d : D) (c : Nat) (p : List D) : compF G env vs t ifs elt d ≠ some (.ex c p) := by
  unfold compF
  cases bindP (wipeE env vs) t d with
  | none => exact fun z => nomatch z
  | some e => exact fun z => calmM_ex z
theorem lc_red {vs : List Nat} {t : Pat} {it : CI} {ifs : CEs} {elt : CE} (hp : ∀ j ∈ pvars t, j ∈ vs) (hpr : paired it = true → isTupP t = true) : ∀ σ H Q, tE G W (.comp vs t it ifs elt) σ H Q → tLc (tI G W it) (tG G t) (tTs G W0 ifs) (tE G W0 elt) vs σ H Q := by
  rintro σ H Q ⟨Ob, Os, env, S, h⟩
  unfold Fin at h
  rw [evE] at h
  refine ⟨Ob, Os, env, S, MPost.imp (MPost.bind h) (fun q hq J H1 s1 hJ Dl hD => ?_) fun c p z => z⟩
  obtain ⟨sol, ds⟩ := q
  have hq : MPost ((turns (compF G env vs t ifs elt) ds).bind fun r => if lenLe r line then okM (Fl.fr, D.lst r) else none) (fun r => ∀ v H', Same H H' → FlR G.K G.w Ob Os H H' r.2 v r.1 → Q v H') (XP G W σ H) := hq
  cases et : turns (compF G env vs t ifs elt) ds with
  | none => rw [et] at hq; exact hq.elim
  | some r0 =>
  cases r0 with
  | ex c p => exact absurd et (turns_ex compF_ex)
  | ok r =>
  rw [et, M.bind_ok] at hq
  cases hl : lenLe r line with
  | false => rw [hl] at hq; exact hq.elim
  | true =>
  rw [hl] at hq
  have hq : ∀ v H', Same H H' → FlR G.K G.w Ob Os H H' (.lst r) v .fr → Q v H' := hq
  have hlr := lenLe_size hl
  have S1 := S.same s1
  have J0 := hJ [] (.inl (by simp))
  have ok1 : ∀ {H'}, Same H1 H' → Same (Hm H1 []) H' := fun z => (Hm_same (O := [])).trans z
  refine ⟨fun i m H' => m = ds.length - i ∧ i ≤ ds.length ∧ Same H1 H' ∧ ∃ racc acc r', H' Dl = some (.lst acc) ∧ Reps G.K G.w (Hm H' (Os ++ Dl :: Ob)) racc acc ∧ turns (compF G env vs t ifs elt) (ds.drop i) = some (.ok r') ∧ r = racc ++ r',
    ⟨ds.length, rfl, Nat.zero_le _, same_new hD, [], [], r, upd_same, .nil, et, rfl⟩, ?_⟩
  rintro i m H' ⟨rfl, hi, sH, racc, acc, r', hDl, hacc, ht, hr⟩
  obtain ⟨stop, go⟩ := J0 i H' (ok1 sH)
  rcases (Nat.lt_or_ge i ds.length).symm with hge | hlt
  · -- the end
    have e0 : i = ds.length := by omega
    subst e0
    rw [List.drop_length, turns] at ht
    cases ht
    rw [List.append_nil] at hr
    subst hr
    refine .inl ⟨stop (Nat.le_refl _), hq _ H' (s1.trans sH) ⟨Dl, rfl, s1.free hD, .lst hDl (hacc.same (Hm_sub fun a h => ?_))⟩⟩
    simp only [List.mem_cons, List.mem_append] at h ⊢
    rcases h with h | h | h
    · exact .inr (.inl h)
    · exact .inl h
    · exact .inr (.inr h)
  · have ed : ds[i]? = some ds[i] := List.getElem?_eq_getElem hlt
    obtain ⟨hgo, hy⟩ := go _ ed
    obtain ⟨o, r2, ef, ht2, er⟩ := turns_at ht ed
    have hnT : ∀ {H2 : Hp} {acc : List V}, H2 Dl = some (.lst acc) → ∃ o, H2 Dl = some o ∧ ∀ vs, ¬ Rd H2 Dl (.tup vs) := fun {H2 acc} e => ⟨_, e, fun vs z => by rcases z with z | ⟨o, z⟩ <;> (rw [e] at z; cases z)⟩
    have hacclt : ∀ {y}, o = some y → acc.length < sizeLine := fun {y} eo => by
      have : acc.length = racc.length := hacc.length.symm
      rw [this]
      have : r.length = racc.length + (1 + r2.length) := by rw [hr, er, eo]; simp; omega
      omega
    refine .inr ⟨hgo, fun H' => i + 1 ≤ ds.length ∧ Same H1 H' ∧ ∃ racc acc r', H' Dl = some (.lst acc) ∧ Reps G.K G.w (Hm H' (Os ++ Dl :: Ob)) racc acc ∧ turns (compF G env vs t ifs elt) (ds.drop (i + 1)) = some (.ok r') ∧ r = racc ++ r', fun H' z => ⟨ds.length - (i + 1), by omega, rfl, z⟩, fun x H2 y => ?_⟩
    obtain ⟨s2, ir⟩ := hy x H2 y
    have sH2 := sH.trans s2
    have S2 : StRel G.K G.w (Dl :: Ob) Os env σ H2 := S1.moreOb sH2 hD (hnT (s2 _ _ hDl))
    unfold compF at ef
    cases eb : bindP (wipeE env vs) t ds[i] with
    | none => rw [eb] at ef; cases ef
    | some env1 =>
    rw [eb] at ef
    have ef := calmM_ok ef
    refine ⟨Dl :: Ob, Os, wipeE env vs, Hm H1 (Os ++ Ob), ds[i], env1, paired it, S2.wipe vs, ?_, ir, hpr, eb, fun σ2 S3 fr len => ⟨?_, ?_⟩⟩
    · refine Hm_mono (fun a o e _ => sH2 a o e) fun a h => ?_
      rcases List.mem_append.mp h with h | h
      · exact .inl (List.mem_append_left _ h)
      · rcases List.mem_cons.mp h with h | h
        · exact .inr (by rw [h]; exact hD)
        · exact .inl (List.mem_append_right _ h)
    · have e1 := wipe_eq (vs := vs) len fun j hj => fr j fun z => hj (hp j z)
      exact e1.trans wipe_wipe
    · refine ⟨Dl :: Ob, Os, env1, S3, ?_⟩
      cases ets : evTs G.T G.cl env1 ifs with
      | none => rw [ets] at ef; cases ef
      | some q =>
      cases q with
      | ex c p => rw [ets] at ef; cases ef
      | ok b =>
      rw [ets, M.bind_ok] at ef
      refine fun H3 s3 => ?_
      have sH3 := sH2.trans s3
      cases b with
      | false =>
        have ef : some (R.ok none) = some (.ok o) := ef
        cases ef
        refine ite_ff ?_
        exact ⟨hlt, sH3, racc, acc, r2, s3 _ _ (s2 _ _ hDl), hacc.same (Hm_ext (s2.trans s3)), ht2, by rw [hr, er]; rfl⟩
      | true =>
        refine ite_tt ?_
        rw [if_pos rfl] at ef
        refine ⟨Dl :: Ob, Os, env1, S3.same s3, ?_⟩
        unfold Fin
        cases ee : evE G.T G.cl env1 elt with
        | none => rw [ee] at ef; cases ef
        | some q =>
        cases q with
        | ex c p => rw [ee] at ef; cases ef
        | ok yv =>
        rw [ee, M.bind_ok] at ef
        refine fun v H4 s4 fl => ?_
        cases est : yv.1.still yv.2 with
        | false => rw [est] at ef; cases ef
        | true =>
        rw [est] at ef
        have ef : some (R.ok (some yv.2)) = some (.ok o) := ef
        cases ef
        have rv := fl.still (S3.same s3).noT s4 est
        have hD4 : H4 Dl = some (.lst acc) := s4 _ _ (s3 _ _ (s2 _ _ hDl))
        refine ⟨acc, hD4, hacclt rfl, hlt, fun a o e => ?_, racc ++ [yv.2], acc ++ [v], r2, upd_same, ?_, ht2, by rw [hr, er]; simp⟩
        · rw [upd_ne (ne_of_none e hD)]
          exact s4 a o (sH3 a o e)
        · rw [Hm_in (by simp)]
          exact (hacc.same (Hm_ext (s2.trans (s3.trans s4)))).append (.one rv)
end
end Ev

end
section
/-! Ev7: comprehensions of two clauses; the comprehensions' rules. -/
set_option autoImplicit false
set_option linter.all false
set_option Elab.async false
set_option maxRecDepth 100000
set_option maxHeartbeats 4000000
namespace Ev
open PySem PySem.Spec PyProof.Rows L2

theorem StRel.updOb {K : Frag} {w : World} {Ob Os : List Addr} {env : Env} {σ : L2.St} {H H' : Hp} (S : StRel K w Ob Os env σ H) {b : Addr} (hb : b ∈ Ob) (s : Same (Hm H [b]) H') (n : ∃ o, H' b = some o ∧ ∀ vs, ¬ Rd H' b (.tup vs)) : StRel K w Ob Os env σ H' := by
  have keep : ∀ a o, H a = some o → a ≠ b → H' a = some o := fun a o e h => s a o (by rw [Hm_at (by simpa using h)]; exact e)
  have sub : Same (Hm H (Os ++ Ob)) (Hm H' (Os ++ Ob)) := Hm_mono (fun a o e h => keep a o e fun z => h (by rw [z]; exact List.mem_append_right _ hb)) fun a h => .inl h
  have nb : ∀ a ∈ Os, a ≠ b := fun a h e => S.dj a h (by rw [e]; exact hb)
  exact {
    len := S.len
    slot := fun i sf d e => by
      obtain ⟨v, h1, h2⟩ := S.slot i sf d e
      refine ⟨v, h1, ?_⟩
      cases sf with
      | fz => exact Rep.same sub h2
      | ow =>
        obtain ⟨b', e, hb', c⟩ := h2
        exact ⟨b', e, hb', c.same sub fun o z => keep _ _ z (nb b' hb')⟩
    inj := S.inj
    noT := fun a h => by
      by_cases e : a = b
      · subst e
        obtain ⟨o, e, q⟩ := n
        exact ⟨by rw [e]; simp, q⟩
      · obtain ⟨h1, h2⟩ := S.noT a h
        cases eo : H a with
        | none => exact absurd eo h1
        | some o =>
          have eo' := keep a o eo e
          refine ⟨by rw [eo']; simp, fun vs z => h2 vs ?_⟩
          rcases z with z | ⟨ob, z⟩
          · rw [eo'] at z; cases z; exact .inl eo
          · rw [eo'] at z; cases z; exact .inr ⟨ob, eo⟩
    dj := S.dj }
theorem turnsF_at {f : D → M (List D)} {ds : List D} {i : Nat} {r : List D} {d : D} (h : turnsF f (ds.drop i) = some (.ok r)) (e : ds[i]? = some d) : ∃ o r', f d = some (.ok o) ∧ turnsF f (ds.drop (i + 1)) = some (.ok r') ∧ r = o ++ r' := by
  have hi := (List.getElem?_eq_some_iff.mp e).1
  have e2 : ds.drop i = d :: ds.drop (i + 1) := by
    rw [List.drop_eq_getElem_cons hi]
    have := (List.getElem?_eq_some_iff.mp e).2
    rw [this]
  rw [e2, turnsF] at h
  cases e3 : f d with
  | none => rw [e3] at h; cases h
  | some q =>
    rw [e3] at h
    cases q with
    | ex c p => cases h
    | ok o =>
      rw [M.bind_ok] at h
      cases e4 : turnsF f (ds.drop (i + 1)) with
      | none => rw [e4] at h; cases h
      | some q =>
        rw [e4] at h
        cases q with
        | ex c p => cases h
        | ok r' => rw [M.bind_ok] at h; cases h; exact ⟨o, r', rfl, rfl, rfl⟩
theorem turnsF_ex {f : D → M (List D)} (hf : ∀ d c p, f d ≠ some (.ex c p)) : ∀ {ds : List D} {c : Nat} {p : List D}, turnsF f ds ≠ some (.ex c p)
  | [], c, p => by rw [turnsF]; exact fun z => nomatch z
  | d :: ds, c, p => by
    rw [turnsF]
    cases e : f d with
    | none => exact fun z => nomatch z
    | some r =>
      cases r with
      | ex c' p' => exact absurd e (hf d c' p')
      | ok o =>
        rw [M.bind_ok]
        cases e2 : turnsF f ds with
        | none => exact fun z => nomatch z
        | some r =>
          cases r with
          | ex c' p' => exact absurd e2 (turnsF_ex hf)
          | ok r => exact fun z => nomatch z
section
variable {G : Lg} {X : Cx} {W : WX} {pos : Pos}
def compG (G : Lg) (env1 : Env) (vs1 : List Nat) (t1 : Pat) (ifs1 : CEs) (elt : CE) (d1 : D) : M (Option D) := match bindP (wipeE env1 vs1) t1 d1 with
  | some env2 => (evTs G.T G.cl env2 ifs1).bind fun b => if b then
      (evE G.T G.cl env2 elt).bind fun y => if y.1.still y.2 then okM (some y.2) else none
    else okM none
  | none => none
def compF2 (G : Lg) (env : Env) (vs : List Nat) (t : Pat) (ifs : CEs) (vs1 : List Nat) (t1 : Pat) (it1 : CI) (ifs1 : CEs) (elt : CE) (d : D) : M (List D) := match bindP (wipeE env vs) t d with
  | some env1 => calmM ((evTs G.T G.cl env1 ifs).bind fun b => if b then
      (evI G.T G.cl env1 it1).bind fun q1 => turns (compG G env1 vs1 t1 ifs1 elt) q1.2
    else okM [])
  | none => none
theorem compF2_ex {env : Env} {vs : List Nat} {t : Pat} {ifs : CEs} {vs1 : List Nat} {t1 : Pat} {it1 : CI} {ifs1 : CEs} {elt : CE} (d : D) (c : Nat) (p : List D) : compF2 G env vs t ifs vs1 t1 it1 ifs1 elt d ≠ some (.ex c p) := by
  unfold compF2
  cases bindP (wipeE env vs) t d with
  | none => exact fun z => nomatch z
  | some e => exact fun z => calmM_ex z
theorem sub_cons {H H' : Hp} {Os Ob : List Addr} {b : Addr} (s : Same H H') (hb : H b = none) : Same (Hm H (Os ++ Ob)) (Hm H' (Os ++ b :: Ob)) := Hm_mono (fun a o e _ => s a o e) fun a h => by
  rcases List.mem_append.mp h with h | h
  · exact .inl (List.mem_append_left _ h)
  · rcases List.mem_cons.mp h with h | h
    · exact .inr (by rw [h]; exact hb)
    · exact .inl (List.mem_append_right _ h)
theorem lst_noT {H : Hp} {b : Addr} {acc : List V} (e : H b = some (.lst acc)) : ∃ o, H b = some o ∧ ∀ vs, ¬ Rd H b (.tup vs) := ⟨_, e, fun vs z => by rcases z with z | ⟨o, z⟩ <;> (rw [e] at z; cases z)⟩
theorem lc2_red {vs vs1 : List Nat} {t t1 : Pat} {it it1 : CI} {ifs ifs1 : CEs} {elt : CE} (hp : ∀ j ∈ pvars t, j ∈ vs) (hp1 : ∀ j ∈ pvars t1, j ∈ vs1) (hpr : paired it = true → isTupP t = true) (hpr1 : paired it1 = true → isTupP t1 = true) :
    ∀ σ H Q, tE G W (.comp2 vs t it ifs vs1 t1 it1 ifs1 elt) σ H Q → tLc2 (tI G W it) (tG G t) (tTs G W0 ifs) (tI G W0 it1) (tG G t1) (tTs G W0 ifs1) (tE G W0 elt) vs vs1 σ H Q := by
  rintro σ H Q ⟨Ob, Os, env, S, h⟩
  unfold Fin at h
  rw [evE] at h
  refine ⟨Ob, Os, env, S, MPost.imp (MPost.bind h) (fun q hq J H1 s1 hJ Dl hD => ?_) fun c p z => z⟩
  obtain ⟨sol, ds⟩ := q
  have hq : MPost ((turnsF (compF2 G env vs t ifs vs1 t1 it1 ifs1 elt) ds).bind fun r => if lenLe r line then okM (Fl.fr, D.lst r) else none) (fun r => ∀ v H', Same H H' → FlR G.K G.w Ob Os H H' r.2 v r.1 → Q v H') (XP G W σ H) := hq
  cases et : turnsF (compF2 G env vs t ifs vs1 t1 it1 ifs1 elt) ds with
  | none => rw [et] at hq; exact hq.elim
  | some r0 =>
  cases r0 with
  | ex c p => exact absurd et (turnsF_ex compF2_ex)
  | ok r =>
  rw [et, M.bind_ok] at hq
  cases hl : lenLe r line with
  | false => rw [hl] at hq; exact hq.elim
  | true =>
  rw [hl] at hq
  have hq : ∀ v H', Same H H' → FlR G.K G.w Ob Os H H' (.lst r) v .fr → Q v H' := hq
  have hlr := lenLe_size hl
  have S1 := S.same s1
  have J0 := hJ [] (.inl (by simp))
  have ok1 : ∀ {H'}, Same H1 H' → Same (Hm H1 []) H' := fun z => (Hm_same (O := [])).trans z
  refine ⟨fun i m H' => m = ds.length - i ∧ i ≤ ds.length ∧ Same H1 H' ∧ ∃ racc acc r', H' Dl = some (.lst acc) ∧ Reps G.K G.w (Hm H' (Os ++ Dl :: Ob)) racc acc ∧ turnsF (compF2 G env vs t ifs vs1 t1 it1 ifs1 elt) (ds.drop i) = some (.ok r') ∧ r = racc ++ r',
    ⟨ds.length, rfl, Nat.zero_le _, same_new hD, [], [], r, upd_same, .nil, et, rfl⟩, ?_⟩
  rintro i m H' ⟨rfl, hi, sH, racc, acc, r', hDl, hacc, ht, hr⟩
  obtain ⟨stop, go⟩ := J0 i H' (ok1 sH)
  rcases (Nat.lt_or_ge i ds.length).symm with hge | hlt
  · -- the end
    have e0 : i = ds.length := by omega
    subst e0
    rw [List.drop_length, turnsF] at ht
    cases ht
    rw [List.append_nil] at hr
    subst hr
    refine .inl ⟨stop (Nat.le_refl _), hq _ H' (s1.trans sH) ⟨Dl, rfl, s1.free hD, .lst hDl (hacc.same (Hm_sub fun a h => ?_))⟩⟩
    simp only [List.mem_cons, List.mem_append] at h ⊢
    rcases h with h | h | h
    · exact .inr (.inl h)
    · exact .inl h
    · exact .inr (.inr h)
  · have ed : ds[i]? = some ds[i] := List.getElem?_eq_getElem hlt
    obtain ⟨hgo, hy⟩ := go _ ed
    obtain ⟨o, r2, ef, ht2, er⟩ := turnsF_at ht ed
    refine .inr ⟨hgo, fun H' => i + 1 ≤ ds.length ∧ Same H1 H' ∧ ∃ racc acc r', H' Dl = some (.lst acc) ∧ Reps G.K G.w (Hm H' (Os ++ Dl :: Ob)) racc acc ∧ turnsF (compF2 G env vs t ifs vs1 t1 it1 ifs1 elt) (ds.drop (i + 1)) = some (.ok r') ∧ r = racc ++ r', fun H' z => ⟨ds.length - (i + 1), by omega, rfl, z⟩, fun x H2 y => ?_⟩
    obtain ⟨s2, ir⟩ := hy x H2 y
    have sH2 := sH.trans s2
    have S2 : StRel G.K G.w (Dl :: Ob) Os env σ H2 := S1.moreOb sH2 hD (lst_noT (s2 _ _ hDl))
    unfold compF2 at ef
    cases eb : bindP (wipeE env vs) t ds[i] with
    | none => rw [eb] at ef; cases ef
    | some env1 =>
    rw [eb] at ef
    have ef := calmM_ok ef
    refine ⟨Dl :: Ob, Os, wipeE env vs, Hm H1 (Os ++ Ob), ds[i], env1, paired it, S2.wipe vs, sub_cons sH2 hD, ir, hpr, eb, fun σ2 S3 fr len => ⟨?_, ?_⟩⟩
    · exact (wipe_eq (vs := vs) len fun j hj => fr j fun z => hj (hp j z)).trans wipe_wipe
    refine ⟨Dl :: Ob, Os, env1, S3, ?_⟩
    cases ets : evTs G.T G.cl env1 ifs with
    | none => rw [ets] at ef; cases ef
    | some q =>
    cases q with
    | ex c p => rw [ets] at ef; cases ef
    | ok b =>
    rw [ets, M.bind_ok] at ef
    refine fun H3 s3 => ?_
    have sH3 := sH2.trans s3
    cases b with
    | false =>
      have ef : some (R.ok []) = some (.ok o) := ef
      cases ef
      refine ite_ff ?_
      exact ⟨hlt, sH3, racc, acc, r2, s3 _ _ (s2 _ _ hDl), hacc.same (Hm_ext (s2.trans s3)), ht2, by rw [hr, er]; rfl⟩
    | true =>
    refine ite_tt ?_
    rw [if_pos rfl] at ef
    refine ⟨Dl :: Ob, Os, env1, S3.same s3, ?_⟩
    cases ei : evI G.T G.cl env1 it1 with
    | none => rw [ei] at ef; cases ef
    | some q =>
    cases q with
    | ex c p => rw [ei] at ef; cases ef
    | ok q1 =>
    rw [ei, M.bind_ok] at ef
    obtain ⟨sol1, ds1⟩ := q1
    have ef : turns (compG G env1 vs1 t1 ifs1 elt) ds1 = some (.ok o) := ef
    refine fun J1 H4 s4 hJ1 => ?_
    have J10 : ItOk (paired it1) G.K G.w (Hm H4 (Os ++ Dl :: Ob)) [Dl] H4 J1 ds1 := hJ1 [Dl] (.inl (by simp))
    have S4 := (S3.same s3).same s4
    have hD4 : H4 Dl = some (.lst acc) := s4 _ _ (s3 _ _ (s2 _ _ hDl))
    have hacc4 := hacc.same (Hm_ext (O := Os ++ Dl :: Ob) ((s2.trans s3).trans s4))
    have lift1 : ∀ {H'}, Same (Hm H4 [Dl]) H' → Same H1 H' := fun z a o e => z a o (by rw [Hm_at (by simpa using ne_of_none e hD)]; exact s4 a o (sH3 a o e))
    refine ⟨fun j k H' => k = ds1.length - j ∧ j ≤ ds1.length ∧ Same (Hm H4 [Dl]) H' ∧ ∃ racc1 acc r', H' Dl = some (.lst acc) ∧ Reps G.K G.w (Hm H' (Os ++ Dl :: Ob)) (racc ++ racc1) acc ∧ turns (compG G env1 vs1 t1 ifs1 elt) (ds1.drop j) = some (.ok r') ∧ o = racc1 ++ r',
      ⟨ds1.length, rfl, Nat.zero_le _, Hm_same, [], acc, o, hD4, by rw [List.append_nil]; exact hacc4, ef, rfl⟩, ?_⟩
    rintro j k H5 ⟨rfl, hj, sH5, racc1, acc1, r1', hD5, hacc1, ht1, hr1⟩
    obtain ⟨stop1, go1⟩ := J10 j H5 sH5
    rcases (Nat.lt_or_ge j ds1.length).symm with hge1 | hlt1
    · have e0 : j = ds1.length := by omega
      subst e0
      rw [List.drop_length, turns] at ht1
      cases ht1
      rw [List.append_nil] at hr1
      subst hr1
      exact .inl ⟨stop1 (Nat.le_refl _), hlt, lift1 sH5, racc ++ o, acc1, r2, hD5, hacc1, ht2, by rw [hr, er, List.append_assoc]⟩
    · have ed1 : ds1[j]? = some ds1[j] := List.getElem?_eq_getElem hlt1
      obtain ⟨hgo1, hy1⟩ := go1 _ ed1
      obtain ⟨o1, r3, ef1, ht3, er1⟩ := turns_at ht1 ed1
      have hacclt : ∀ {y}, o1 = some y → acc1.length < sizeLine := fun {y} eo => by
        have : acc1.length = (racc ++ racc1).length := hacc1.length.symm
        rw [this]
        have : r.length = (racc ++ racc1).length + (1 + r3.length) + r2.length := by rw [hr, er, hr1, er1, eo]; simp; omega
        omega
      refine .inr ⟨hgo1, fun H' => j + 1 ≤ ds1.length ∧ Same (Hm H4 [Dl]) H' ∧ ∃ racc1 acc r', H' Dl = some (.lst acc) ∧ Reps G.K G.w (Hm H' (Os ++ Dl :: Ob)) (racc ++ racc1) acc ∧ turns (compG G env1 vs1 t1 ifs1 elt) (ds1.drop (j + 1)) = some (.ok r') ∧ o = racc1 ++ r', fun H' z => ⟨ds1.length - (j + 1), by omega, rfl, z⟩, fun x1 H6 y1 => ?_⟩
      obtain ⟨s6, ir1⟩ := hy1 x1 H6 y1
      have hD6 := s6 _ _ hD5
      have sH6 : Same (Hm H4 [Dl]) H6 := sH5.trans s6
      have S6 : StRel G.K G.w (Dl :: Ob) Os env1 σ2 H6 := S4.updOb (by simp) sH6 (lst_noT hD6)
      unfold compG at ef1
      cases eb1 : bindP (wipeE env1 vs1) t1 ds1[j] with
      | none => rw [eb1] at ef1; cases ef1
      | some env2 =>
      rw [eb1] at ef1
      dsimp only at ef1
      refine ⟨Dl :: Ob, Os, wipeE env1 vs1, Hm H4 (Os ++ Dl :: Ob), ds1[j], env2, paired it1, S6.wipe vs1, ?_, ir1, hpr1, eb1, fun σ3 S7 fr1 len1 => ⟨?_, ?_⟩⟩
      · refine Hm_mono (fun a o e h => sH6 a o ?_) fun a h => .inl h
        rw [Hm_at fun z => h ?_]
        · exact e
        · rw [List.mem_singleton.mp z]; simp
      · exact (wipe_eq (vs := vs1) len1 fun j hj => fr1 j fun z => hj (hp1 j z)).trans wipe_wipe
      refine ⟨Dl :: Ob, Os, env2, S7, ?_⟩
      cases ets1 : evTs G.T G.cl env2 ifs1 with
      | none => rw [ets1] at ef1; cases ef1
      | some q =>
      cases q with
      | ex c p => rw [ets1] at ef1; cases ef1
      | ok b1 =>
      rw [ets1, M.bind_ok] at ef1
      refine fun H7 s7 => ?_
      cases b1 with
      | false =>
        have ef1 : some (R.ok none) = some (.ok o1) := ef1
        cases ef1
        refine ite_ff ?_
        exact ⟨hlt1, sH6.trans s7, racc1, acc1, r3, s7 _ _ hD6, hacc1.same (Hm_ext (s6.trans s7)), ht3, by rw [hr1, er1]; rfl⟩
      | true =>
      refine ite_tt ?_
      rw [if_pos rfl] at ef1
      refine ⟨Dl :: Ob, Os, env2, S7.same s7, ?_⟩
      unfold Fin
      cases ee : evE G.T G.cl env2 elt with
      | none => rw [ee] at ef1; cases ef1
      | some q =>
      cases q with
      | ex c p => rw [ee] at ef1; cases ef1
      | ok yv =>
      rw [ee, M.bind_ok] at ef1
      refine fun v H8 s8 fl => ?_
      cases est : yv.1.still yv.2 with
      | false => rw [est] at ef1; cases ef1
      | true =>
      rw [est] at ef1
      have ef1 : some (R.ok (some yv.2)) = some (.ok o1) := ef1
      cases ef1
      have rv := fl.still (S7.same s7).noT s8 est
      have hD8 : H8 Dl = some (.lst acc1) := s8 _ _ (s7 _ _ hD6)
      refine ⟨acc1, hD8, hacclt rfl, hlt1, fun a o e => ?_, racc1 ++ [yv.2], acc1 ++ [v], r3, upd_same, ?_, ht3, by rw [hr1, er1]; simp⟩
      · rw [upd_ne fun z => (Hm_of e).1 (by rw [z]; simp)]
        exact s8 a o (s7 a o (sH6 a o e))
      · rw [Hm_in (by simp), ← List.append_assoc]
        exact (hacc1.same (Hm_ext (s6.trans (s7.trans s8)))).append (.one rv)

/-! ### the rules -/
theorem e_comp {vs : List Nat} {t : Pat} {it : CI} {ifs' : CEs} {elt' : CE} {elt tg iter : Expr} {ifs : List Expr} {scope : Scope} {own : List (Str × Nat)} (hc : X.calm = true) (hN : X.N.Nodup) (hi : PI X tg iter (tI G W it)) (ok : BlkOk X.N X.env.scope scope own) (hv : own.map (·.2) = vs)
    (hg : ∀ (s : Shared) (H : Hp) (C : Addr) (cl : List (Str × Addr)) (fp : List Addr), PG (X.blk s H scope (compEnvC scope cl C X.env) fp) tg (tG G t)) (ht : ∀ (s : Shared) (H : Hp) (C : Addr) (cl : List (Str × Addr)) (fp : List Addr), PTs (X.blk s H scope (compEnvC scope cl C X.env) fp) ifs (tTs G W0 ifs'))
    (he : ∀ (s : Shared) (H : Hp) (C : Addr) (cl : List (Str × Addr)) (fp : List Addr), PE (X.blk s H scope (compEnvC scope cl C X.env) fp) elt (tE G W0 elt')) (hs : ∀ x, foldedSetIterable iter X.env x = pure x)
    (hp : ∀ j ∈ pvars t, j ∈ vs) (hpr : paired it = true → isTupP t = true) : PE X (.ListComp elt [⟨tg, iter, ifs, 0⟩] scope pos) (tE G W (.comp vs t it ifs' elt')) :=
  (pe_lc hc hN hi ok hg ht he hs).weak (by rw [hv]; exact lc_red hp hpr)
theorem e_comp2 {vs vs1 : List Nat} {t t1 : Pat} {it it1 : CI} {ifs' ifs1' : CEs} {elt' : CE} {elt tg iter tg1 iter1 : Expr} {ifs ifs1 : List Expr} {scope : Scope} {own : List (Str × Nat)} (hc : X.calm = true) (hN : X.N.Nodup) (hi : PI X tg iter (tI G W it)) (ok : BlkOk X.N X.env.scope scope own) (hv : own.map (·.2) = vs) (hv1 : ∀ i ∈ vs1, i ∈ vs)
    (hg : ∀ (s : Shared) (H : Hp) (C : Addr) (cl : List (Str × Addr)) (fp : List Addr), PG (X.blk s H scope (compEnvC scope cl C X.env) fp) tg (tG G t)) (ht : ∀ (s : Shared) (H : Hp) (C : Addr) (cl : List (Str × Addr)) (fp : List Addr), PTs (X.blk s H scope (compEnvC scope cl C X.env) fp) ifs (tTs G W0 ifs'))
    (hi1 : ∀ (s : Shared) (H : Hp) (C : Addr) (cl : List (Str × Addr)) (fp : List Addr), PI (X.blk s H scope (compEnvC scope cl C X.env) fp) tg1 iter1 (tI G W0 it1))
    (hg1 : ∀ (s : Shared) (H : Hp) (C : Addr) (cl : List (Str × Addr)) (fp : List Addr), PG (X.blk s H scope (compEnvC scope cl C X.env) fp) tg1 (tG G t1)) (ht1 : ∀ (s : Shared) (H : Hp) (C : Addr) (cl : List (Str × Addr)) (fp : List Addr), PTs (X.blk s H scope (compEnvC scope cl C X.env) fp) ifs1 (tTs G W0 ifs1'))
    (he : ∀ (s : Shared) (H : Hp) (C : Addr) (cl : List (Str × Addr)) (fp : List Addr), PE (X.blk s H scope (compEnvC scope cl C X.env) fp) elt (tE G W0 elt')) (hs : ∀ x, foldedSetIterable iter X.env x = pure x) (hs1 : ∀ env x, foldedSetIterable iter1 env x = pure x)
    (hp : ∀ j ∈ pvars t, j ∈ vs) (hp1 : ∀ j ∈ pvars t1, j ∈ vs1) (hpr : paired it = true → isTupP t = true) (hpr1 : paired it1 = true → isTupP t1 = true) :
    PE X (.ListComp elt [⟨tg, iter, ifs, 0⟩, ⟨tg1, iter1, ifs1, 0⟩] scope pos) (tE G W (.comp2 vs t it ifs' vs1 t1 it1 ifs1' elt')) :=
  (pe_lc2 hc hN hi ok (by rw [hv]; exact hv1) hg ht hi1 hg1 ht1 he hs hs1).weak (by rw [hv]; exact lc2_red hp hp1 hpr hpr1)
end
end Ev

end
section
/-! Ev8: statements. -/
set_option autoImplicit false
set_option linter.all false
set_option Elab.async false
set_option maxRecDepth 100000
set_option maxHeartbeats 4000000
namespace Ev
open PySem PySem.Spec PyProof.Rows L2

/-! ### what a statement may change -/
structure Fr (Os : List Addr) (H : Hp) (Os' : List Addr) (H' : Hp) : Prop where
  same : Same (Hm H Os) H'
  new : ∀ a ∈ Os', a ∈ Os ∨ H a = none
theorem Fr.refl (Os : List Addr) (H : Hp) : Fr Os H Os H := ⟨Hm_same, fun a h => .inl h⟩
theorem Fr.of {Os Os' : List Addr} {H H' : Hp} (s : Same H H') (q : ∀ a ∈ Os', a ∈ Os ∨ H a = none) : Fr Os H Os' H' := ⟨Hm_same.trans s, q⟩
theorem Fr.sm {Os : List Addr} {H H' : Hp} (s : Same H H') : Fr Os H Os H' := .of s fun a h => .inl h
theorem Fr.trans {Os Os1 Os2 : List Addr} {H H1 H2 : Hp} (f : Fr Os H Os1 H1) (g : Fr Os1 H1 Os2 H2) : Fr Os H Os2 H2 where
  same := fun a o h => by
    obtain ⟨n, e⟩ := Hm_of h
    refine g.same a o ?_
    rw [Hm_at fun z => ?_]
    · exact f.same a o h
    · rcases f.new a z with z | z
      · exact n z
      · rw [z] at e; cases e
  new := fun a h => by
    rcases g.new a h with z | z
    · exact f.new a z
    · by_cases q : a ∈ Os
      · exact .inl q
      · cases e : H a with
        | none => exact .inr rfl
        | some o =>
          have := f.same a o (by rw [Hm_at q]; exact e)
          rw [this] at z; cases z

/-! ### states: more moves -/
section
variable {K : Frag} {w : World} {Ob Os : List Addr} {env : Env} {σ : L2.St} {H H' : Hp}
/-- fewer own objects: those that are left out belong to frozen slots -/
theorem StRel.freeze1 (S : StRel K w Ob Os env σ H) (i : Nat) {d : D} (h : env[i]? = some (some (.ow, d))) : ∃ Os', (∀ a ∈ Os', a ∈ Os) ∧ StRel K w Ob Os' (env.set i (some (.fz, d))) σ H := by
  obtain ⟨v, hv, b, rfl, hb, c⟩ := S.slot i .ow d h
  refine ⟨Os.filter (fun a => decide (a ≠ b)), fun a z => (List.mem_filter.mp z).1, ?_⟩
  have sub : ∀ a, a ∈ Os.filter (fun a => decide (a ≠ b)) ++ Ob → a ∈ Os ++ Ob := fun a z => by
    rcases List.mem_append.mp z with z | z
    · exact List.mem_append_left _ (List.mem_filter.mp z).1
    · exact List.mem_append_right _ z
  have nb : b ∉ Os.filter (fun a => decide (a ≠ b)) ++ Ob := fun z => by
    rcases List.mem_append.mp z with z | z
    · have := (List.mem_filter.mp z).2
      simp at this
    · exact S.dj b hb z
  have hi : i < env.length := (List.getElem?_eq_some_iff.mp h).1
  have old : ∀ j, i ≠ j → ∀ sf d, env[j]? = some (some (sf, d)) → ∃ v, σ[j]? = some (some v) ∧ SlotR K w Ob (Os.filter (fun a => decide (a ≠ b))) H d v sf := fun j hj sf d' e => by
    obtain ⟨v', h1, h2⟩ := S.slot j sf d' e
    refine ⟨v', h1, ?_⟩
    cases sf with
    | fz => exact Rep.same (Hm_sub sub) h2
    | ow =>
      obtain ⟨b', e', hb', c'⟩ := h2
      have hne : b' ≠ b := fun z => hj (S.inj i j .ow .ow d d' b h e (by simp) (by simp) hv (by rw [h1, e', z]))
      exact ⟨b', e', List.mem_filter.mpr ⟨hb', by simpa using hne⟩, c'.same (Hm_sub sub) fun o z => z⟩
  exact {
    len := by rw [List.length_set]; exact S.len
    slot := fun j sf d' e => by
      by_cases hj : i = j
      · subst hj
        rw [List.getElem?_set_self hi] at e
        cases e
        refine ⟨_, hv, ?_⟩
        exact (c.same (F' := Hm H (Os.filter (fun a => decide (a ≠ b)) ++ Ob)) (H' := Hm H (Os.filter (fun a => decide (a ≠ b)) ++ Ob)) (Hm_sub sub) fun o z => by rw [Hm_at nb]; exact z).rep fun _ _ z => z
      · rw [List.getElem?_set_ne hj] at e
        exact old j hj sf d' e
    inj := fun i1 j1 sf sg d1 e1 b1 h1 h2 n1 n2 k1 k2 => by
      have q : ∀ {j sf d'}, (env.set i (some (.fz, d)))[j]? = some (some (sf, d')) → sf ≠ .fz → i ≠ j := fun {j sf d'} e n hj => by
        subst hj
        rw [List.getElem?_set_self hi] at e
        cases e
        exact n rfl
      have a1 := q h1 n1
      have a2 := q h2 n2
      rw [List.getElem?_set_ne a1] at h1
      rw [List.getElem?_set_ne a2] at h2
      exact S.inj i1 j1 sf sg d1 e1 b1 h1 h2 n1 n2 k1 k2
    noT := noT_sub S.noT sub
    dj := fun a h => S.dj a (List.mem_filter.mp h).1 }
theorem StRel.froz : ∀ (is : List Nat) {Os : List Addr} {env : Env}, StRel K w Ob Os env σ H → ∃ Os', (∀ a ∈ Os', a ∈ Os) ∧ StRel K w Ob Os' (Ev.froz env is) σ H
  | [], Os, env, S => ⟨Os, fun a h => h, S⟩
  | i :: is, Os, env, S => by
    unfold Ev.froz
    split
    · rename_i d e
      obtain ⟨Os1, q1, S1⟩ := S.freeze1 i e
      obtain ⟨Os2, q2, S2⟩ := StRel.froz is S1
      exact ⟨Os2, fun a h => q1 a (q2 a h), S2⟩
    · exact StRel.froz is S
theorem froz_own : ∀ (is : List Nat) (env : Env) (j : Nat) (d : D), (froz env is)[j]? = some (some (.ow, d)) → j ∉ is ∧ env[j]? = some (some (.ow, d))
  | [], env, j, d, h => ⟨by simp, h⟩
  | i :: is, env, j, d, h => by
    unfold froz at h
    split at h
    · rename_i d' e
      obtain ⟨h1, h2⟩ := froz_own is _ j d h
      by_cases hj : i = j
      · subst hj
        rw [List.getElem?_set_self (List.getElem?_eq_some_iff.mp e).1] at h2
        cases h2
      · rw [List.getElem?_set_ne hj] at h2
        exact ⟨by simp only [List.mem_cons, not_or]; exact ⟨fun z => hj z.symm, h1⟩, h2⟩
    · rename_i hno
      obtain ⟨h1, h2⟩ := froz_own is env j d h
      refine ⟨?_, h2⟩
      simp only [List.mem_cons, not_or]
      exact ⟨fun z => hno d (by rw [← z]; exact h2), h1⟩
theorem freezeAll_get {env : Env} {i : Nat} {sf : Sf} {d : D} (h : (freezeAll env)[i]? = some (some (sf, d))) : sf = .fz ∧ ∃ sf', env[i]? = some (some (sf', d)) := by
  unfold freezeAll at h
  rw [List.getElem?_map] at h
  cases e : env[i]? with
  | none => rw [e] at h; cases h
  | some o =>
    rw [e] at h
    cases o with
    | none => cases h
    | some p =>
      obtain ⟨sf', d'⟩ := p
      cases h
      exact ⟨rfl, sf', rfl⟩
theorem StRel.freezeAll (S : StRel K w Ob Os env σ H) : StRel K w Ob [] (Ev.freezeAll env) σ H where
  len := by unfold Ev.freezeAll; rw [List.length_map]; exact S.len
  slot := fun i sf d e => by
    obtain ⟨rfl, sf', e'⟩ := freezeAll_get e
    obtain ⟨v, h1, h2⟩ := S.slot i sf' d e'
    refine ⟨v, h1, ?_⟩
    cases sf' with
    | fz => exact Rep.same (Hm_sub fun a z => List.mem_append_right _ (by simpa using z)) h2
    | ow =>
      obtain ⟨b, rfl, hb, c⟩ := h2
      have nb : b ∉ ([] : List Addr) ++ Ob := fun z => S.dj b hb (by simpa using z)
      exact (c.same (F' := Hm H ([] ++ Ob)) (H' := Hm H ([] ++ Ob)) (Hm_sub fun a z => List.mem_append_right _ (by simpa using z)) fun o z => by rw [Hm_at nb]; exact z).rep fun _ _ z => z
  inj := fun i j sf sg d e b h1 h2 n1 _ _ _ => absurd (freezeAll_get h1).1 n1
  noT := noT_sub S.noT fun a h => List.mem_append_right _ (by simpa using h)
  dj := fun a h => by cases h
/-- a slot gets a fresh container -/
theorem StRel.setOw (S : StRel K w Ob Os env σ H) (s : Same H H') {i : Nat} {d : D} {b : Addr} (hb : H b = none) (c : Cont K w (Hm H' (b :: (Os ++ Ob))) H' b d) : StRel K w Ob (b :: Os) (env.set i (some (.ow, d))) (σ.set i (some (.ref b))) H' := by
  have nb : b ∉ Os ++ Ob := noT_out S.noT hb
  have sub : Same (Hm H (Os ++ Ob)) (Hm H' (b :: Os ++ Ob)) := Hm_mono (fun a o e _ => s a o e) fun a h => by
    rcases List.mem_cons.mp h with h | h
    · exact .inr (by rw [h]; exact hb)
    · exact .inl h
  have nbo : ∀ a, a ∈ Os → a ≠ b := fun a h e => nb (List.mem_append_left _ (by rw [← e]; exact h))
  exact {
    len := by rw [List.length_set, List.length_set]; exact S.len
    slot := fun j sf d' e => by
      by_cases hj : i = j
      · subst hj
        by_cases hi : i < env.length
        · rw [List.getElem?_set_self hi] at e
          cases e
          exact ⟨.ref b, by rw [List.getElem?_set_self (by rw [← S.len]; exact hi)], b, rfl, List.mem_cons_self, c⟩
        · rw [List.getElem?_eq_none (by rw [List.length_set]; omega)] at e
          cases e
      · rw [List.getElem?_set_ne hj] at e ⊢
        obtain ⟨v, h1, h2⟩ := S.slot j sf d' e
        refine ⟨v, h1, ?_⟩
        cases sf with
        | fz => exact Rep.same sub h2
        | ow =>
          obtain ⟨b', e', hb', c'⟩ := h2
          exact ⟨b', e', List.mem_cons_of_mem _ hb', c'.same sub fun o z => s _ _ z⟩
    inj := fun i1 j1 sf sg d1 e1 b1 h1 h2 n1 n2 k1 k2 => by
      have own : ∀ {j sf d'}, (env.set i (some (.ow, d)))[j]? = some (some (sf, d')) → sf ≠ .fz → (σ.set i (some (.ref b)))[j]? = some (some (.ref b1)) → (i = j ∧ b1 = b) ∨ (i ≠ j ∧ b1 ≠ b ∧ env[j]? = some (some (sf, d')) ∧ σ[j]? = some (some (.ref b1))) := fun {j sf d'} e n k => by
        by_cases hj : i = j
        · subst hj
          have hi : i < env.length := by
            have := (List.getElem?_eq_some_iff.mp e).1
            simpa using this
          rw [List.getElem?_set_self (by rw [← S.len]; exact hi)] at k
          cases k
          exact .inl ⟨rfl, rfl⟩
        · rw [List.getElem?_set_ne hj] at e k
          obtain ⟨v, q1, q2⟩ := S.slot j sf d' e
          rw [k] at q1; cases q1
          cases sf with
          | fz => exact absurd rfl n
          | ow =>
            obtain ⟨b', e', hb', c'⟩ := q2
            cases e'
            exact .inr ⟨hj, nbo _ hb', e, k⟩
      rcases own h1 n1 k1 with ⟨r1, r2⟩ | ⟨r1, r2, r3, r4⟩
      · rcases own h2 n2 k2 with ⟨t1, t2⟩ | ⟨t1, t2, t3, t4⟩
        · rw [← r1, ← t1]
        · exact absurd r2 t2
      · rcases own h2 n2 k2 with ⟨t1, t2⟩ | ⟨t1, t2, t3, t4⟩
        · exact absurd t2 r2
        · exact S.inj i1 j1 sf sg d1 e1 b1 r3 t3 n1 n2 r4 t4
    noT := fun a h => by
      rcases List.mem_cons.mp h with h | h
      · subst h
        obtain ⟨o, e, q⟩ := c.some
        exact ⟨by rw [e]; simp, q⟩
      · exact S.noT.same s a h
    dj := fun a h z => by
      rcases List.mem_cons.mp h with h | h
      · subst h; exact nb (List.mem_append_right _ z)
      · exact S.dj a h z }
theorem upd_hm {H : Hp} {O : List Addr} {b : Addr} {o : HO} (hb : b ∈ O) : Same (Hm H O) (upd H b o) := fun a o' h => by
  obtain ⟨n, e⟩ := Hm_of h
  rw [upd_ne fun z => n (by rw [z]; exact hb)]
  exact e
/-- an own container is written -/
theorem StRel.write (S : StRel K w Ob Os env σ H) {i : Nat} {d d' : D} {b : Addr} {o : HO} (h : env[i]? = some (some (.ow, d))) (hv : σ[i]? = some (some (.ref b))) (c : Cont K w (Hm H (Os ++ Ob)) (upd H b o) b d') : StRel K w Ob Os (env.set i (some (.ow, d'))) σ (upd H b o) := by
  obtain ⟨v, hv', b', rfl, hb, _⟩ := S.slot i .ow d h
  rw [hv] at hv'; cases hv'
  have hi : i < env.length := (List.getElem?_eq_some_iff.mp h).1
  have hbO : b ∈ Os ++ Ob := List.mem_append_left _ hb
  have eq : Hm (upd H b o) (Os ++ Ob) = Hm H (Os ++ Ob) := Hm_in hbO
  exact {
    len := by rw [List.length_set]; exact S.len
    slot := fun j sf d1 e => by
      by_cases hj : i = j
      · subst hj
        rw [List.getElem?_set_self hi] at e
        cases e
        exact ⟨_, hv, b, rfl, hb, by rw [eq]; exact c⟩
      · rw [List.getElem?_set_ne hj] at e
        obtain ⟨v, h1, h2⟩ := S.slot j sf d1 e
        refine ⟨v, h1, ?_⟩
        cases sf with
        | fz =>
          show Rep K w (Hm (upd H b o) (Os ++ Ob)) d1 v
          rw [eq]; exact h2
        | ow =>
          obtain ⟨b', rfl, hb', c'⟩ := h2
          have hne : b' ≠ b := fun z => hj (S.inj i j .ow .ow d d1 b h e (by simp) (by simp) hv (by rw [h1, z]))
          exact ⟨b', rfl, hb', by rw [eq]; exact c'.same (fun _ _ z => z) fun o z => by rw [upd_ne hne]; exact z⟩
    inj := fun i1 j1 sf sg d1 e1 b1 h1 h2 n1 n2 k1 k2 => by
      have q : ∀ {j sf d1}, (env.set i (some (.ow, d')))[j]? = some (some (sf, d1)) → ∃ d2, env[j]? = some (some (sf, d2)) := fun {j sf d1} e => by
        by_cases hj : i = j
        · subst hj
          rw [List.getElem?_set_self hi] at e
          cases e
          exact ⟨d, h⟩
        · rw [List.getElem?_set_ne hj] at e
          exact ⟨d1, e⟩
      obtain ⟨d3, q1⟩ := q h1
      obtain ⟨d4, q2⟩ := q h2
      exact S.inj i1 j1 sf sg d3 d4 b1 q1 q2 n1 n2 k1 k2
    noT := fun a ha => by
      obtain ⟨h1, h2⟩ := S.noT a ha
      by_cases e : a = b
      · subst e
        obtain ⟨o', e', q⟩ := c.some
        exact ⟨by rw [e']; simp, q⟩
      · refine ⟨by rw [upd_ne e]; exact h1, fun vs z => h2 vs ?_⟩
        rcases z with z | ⟨ob, z⟩
        · rw [upd_ne e] at z; exact .inl z
        · rw [upd_ne e] at z; exact .inr ⟨ob, z⟩
    dj := S.dj }
end

/-! ### readings -/
section
variable (G : Lg) (fu : Nat)
def RtR (K : Frag) (w : World) (Ob Os : List Addr) (H : Hp) (f : Fl) (d : D) (v : V) : Prop := if f == .fr then ∃ b, v = .ref b ∧ b ∈ Os ∧ Cont K w (Hm H (b :: Ob)) H b d else Rep K w (Hm H Ob) d v
def SPost (W : WX) (Ob Os : List Addr) (H : Hp) (D : Ends) : SM → Prop
  | some (.nx e) => ∀ Os' σ' H', Fr Os H Os' H' → StRel G.K G.w Ob Os' e σ' H' → D.nx σ' H'
  | some (.bk e) => ∀ Os' σ' H', Fr Os H Os' H' → StRel G.K G.w Ob Os' e σ' H' → D.bk σ' H'
  | some (.ct e) => ∀ Os' σ' H', Fr Os H Os' H' → StRel G.K G.w Ob Os' e σ' H' → D.ct σ' H'
  | some (.rt f d) => ∀ Os' v H', Fr Os H Os' H' → RtR G.K G.w Ob Os' H' f d v → D.rt v H'
  | some (.ex e c p) => ∀ Os' σ' H', Fr Os H Os' H' → StRel G.K G.w Ob Os' e σ' H' → ∀ cls dx, XRel G.K G.w G.xt H' c p cls dx → W cls dx σ' H'
  | none => False
def tS (W : WX) (c : CS) : TS := fun D σ H => ∃ Ob Os env, StRel G.K G.w Ob Os env σ H ∧ SPost G W Ob Os H D (exS G.T G.cl fu env c)
def tSs (W : WX) (c : CSs) : TS := fun D σ H => ∃ Ob Os env, StRel G.K G.w Ob Os env σ H ∧ SPost G W Ob Os H D (exSs G.T G.cl fu env c)
end
section
variable {G : Lg} {fu : Nat} {X : Cx} {W : WX} {pos : Pos} {Ob Os Os1 : List Addr} {env : Env} {σ : L2.St} {H H1 : Hp} {D : Ends}
theorem SPost.mono {m : SM} (h : SPost G W Ob Os H D m) (f : Fr Os H Os1 H1) : SPost G W Ob Os1 H1 D m := by
  cases m with
  | none => exact h
  | some r =>
    cases r with
    | nx e => exact fun Os' σ' H' g => h Os' σ' H' (f.trans g)
    | bk e => exact fun Os' σ' H' g => h Os' σ' H' (f.trans g)
    | ct e => exact fun Os' σ' H' g => h Os' σ' H' (f.trans g)
    | rt f' d => exact fun Os' v H' g => h Os' v H' (f.trans g)
    | ex e c p => exact fun Os' σ' H' g => h Os' σ' H' (f.trans g)
theorem SPost.imp {m : SM} {D D' : Ends} (h : SPost G W Ob Os H D m) (h1 : ∀ e σ' H' Os', m = some (.nx e) → Fr Os H Os' H' → StRel G.K G.w Ob Os' e σ' H' → D.nx σ' H' → D'.nx σ' H') (h2 : ∀ σ H, D.bk σ H → D'.bk σ H) (h3 : ∀ σ H, D.ct σ H → D'.ct σ H) (h4 : ∀ v H, D.rt v H → D'.rt v H) : SPost G W Ob Os H D' m := by
  cases m with
  | none => exact h
  | some r =>
    cases r with
    | nx e => exact fun Os' σ' H' g s => h1 e σ' H' Os' rfl g s (h Os' σ' H' g s)
    | bk e => exact fun Os' σ' H' g s => h2 _ _ (h Os' σ' H' g s)
    | ct e => exact fun Os' σ' H' g s => h3 _ _ (h Os' σ' H' g s)
    | rt f' d => exact fun Os' v H' g s => h4 _ _ (h Os' v H' g s)
    | ex e c p => exact h
theorem xp_post {α : Type} {m : M α} {k : α → SM} (S : StRel G.K G.w Ob Os env σ H) (h : SPost G W Ob Os H D (xp env m k)) : MPost m (fun a => SPost G W Ob Os H D (k a)) (XP G W σ H) := by
  cases m with
  | none => exact h
  | some r =>
    cases r with
    | ok a => exact h
    | ex c p => exact fun cls dx H' s x => h Os σ H' (.sm s) (S.same s) cls dx x

/-! ### plain statements -/
theorem ss_nil : PSs X [] (tSs G fu W .nil) := ⟨fun pins s σ H D I ⟨Ob, Os, env, S, h⟩ => pss_nil.run pins s σ H D I (by
  rw [exSs] at h
  exact h Os σ H (.refl _ _) S)⟩
theorem ss_cons {a : CS} {as : CSs} {st : Stmt} {rest : List Stmt} (h1 : PS X st (tS G fu W a)) (h2 : PSs X rest (tSs G fu W as)) : PSs X (st :: rest) (tSs G fu W (.cons a as)) := by
  refine (pss_cons h1 h2).weak fun D σ H ⟨Ob, Os, env, S, h⟩ => ⟨Ob, Os, env, S, ?_⟩
  rw [exSs] at h
  cases e : exS G.T G.cl fu env a with
  | none => rw [e] at h; exact h
  | some r =>
    rw [e] at h
    cases r with
    | nx e' => exact fun Os' σ' H' f S' => ⟨Ob, Os', e', S', SPost.mono h f⟩
    | bk e => exact h
    | ct e => exact h
    | rt f' d => exact h
    | ex e c p => exact h
theorem s_pass : PS X (.Pass pos) (tS G fu W .pass) := ps_pass.weak fun D σ H ⟨Ob, Os, env, S, h⟩ => by
  rw [exS] at h
  exact h Os σ H (.refl _ _) S
theorem s_brk : PS X (.Break pos) (tS G fu W .brk) := ps_break.weak fun D σ H ⟨Ob, Os, env, S, h⟩ => by
  rw [exS] at h
  exact h Os σ H (.refl _ _) S
theorem s_cont : PS X (.Continue pos) (tS G fu W .cont) := ps_continue.weak fun D σ H ⟨Ob, Os, env, S, h⟩ => by
  rw [exS] at h
  exact h Os σ H (.refl _ _) S
theorem s_expr {a : CE} {e : Expr} (he : PE X e (tE G W a)) (hs : swapsWith e none pos.line X.env = pure false) : PS X (.Expr e pos) (tS G fu W (.expr a)) := (ps_expr he hs).weak fun D σ H ⟨Ob, Os, env, S, h⟩ => by
  rw [exS] at h
  exact ⟨Ob, Os, env, S, MPost.imp (xp_post S h) (fun x hx v H' s r => hx Os σ H' (.sm s) (S.same s)) fun c p z => z⟩
theorem s_retN : PS X (.Return none pos) (tS G fu W .retN) := ps_retN.weak fun D σ H ⟨Ob, Os, env, S, h⟩ => by
  rw [exS] at h
  exact h Os .non H (.refl _ _) .non
theorem rt_of {d : Ev.D} {f : Fl} {v : V} {H' : Hp} (S : StRel G.K G.w Ob Os env σ H) (s : Same H H') (r : FlR G.K G.w Ob Os H H' d v f) : ∃ Os', Fr Os H Os' H' ∧ RtR G.K G.w Ob Os' H' (if f == .fr then .fr else .st) d v := by
  cases f with
  | fr =>
    obtain ⟨b, rfl, hb, c⟩ := r
    refine ⟨b :: Os, .of s fun a h => ?_, b, rfl, List.mem_cons_self, c.same (Hm_sub fun a h => ?_) fun o z => z⟩
    · rcases List.mem_cons.mp h with h | h
      · exact .inr (by rw [h]; exact hb)
      · exact .inl h
    · rcases List.mem_cons.mp h with h | h
      · rw [h]; exact List.mem_cons_self
      · exact List.mem_cons_of_mem _ (List.mem_append_right _ h)
  | st => exact ⟨Os, .sm s, FlR.outer S.noT S.dj r⟩
  | ow => exact ⟨Os, .sm s, FlR.outer S.noT S.dj r⟩
  | un => exact ⟨Os, .sm s, FlR.outer S.noT S.dj r⟩
theorem s_ret {a : CE} {e : Expr} (he : PE X e (tE' G W a)) : PS X (.Return (some e) pos) (tS G fu W (.ret a)) := by
  refine (ps_ret he).weak fun D σ H ⟨Ob, Os, env, S, h⟩ => ?_
  refine ⟨Ob, Os, env, S, ?_⟩
  by_cases hv : isVar a = true
  · cases a with
    | var j =>
      rw [exS] at h
      rw [evE]
      unfold getS at h ⊢
      cases e : env[j]? with
      | none => rw [e] at h; exact h.elim
      | some o =>
        rw [e] at h
        cases o with
        | none => exact h.elim
        | some p =>
          obtain ⟨sf, d⟩ := p
          cases sf with
          | fz => exact fun v H' s r _ => h Os v H' (.sm s) (FlR.outer (f := .st) S.noT S.dj r)
          | ow =>
            refine fun v H' s r _ => ?_
            obtain ⟨b, rfl, hb, c⟩ := r
            refine h Os _ H' (.sm s) ⟨b, rfl, hb, c.same (Hm_sub fun a h => ?_) fun o z => z⟩
            rcases List.mem_cons.mp h with h | h
            · rw [h]; exact List.mem_append_left _ hb
            · exact List.mem_append_right _ h
    | _ => cases hv
  · have h : SPost G W Ob Os H D (xp env (evE G.T G.cl env a) fun x => some (.rt (if x.1 == .fr then .fr else .st) x.2)) := by
      cases a with
      | var j => exact absurd rfl hv
      | _ => (rw [exS] at h <;> first | exact h | (intro i z; cases z))
    refine MPost.imp (xp_post S h) (fun x hx v H' s r _ => ?_) fun c p z => z
    obtain ⟨Os', f, q⟩ := rt_of S s r
    exact hx Os' v H' f q
theorem s_if {c : CE} {a b : CSs} {ec : Expr} {sa sb : List Stmt} (hc : PT X ec (tT G W c)) (ha : PSs X sa (tSs G fu W a)) (hb : PSs X sb (tSs G fu W b)) : PS X (.If ec sa sb pos) (tS G fu W (.ifS c a b)) := by
  refine (ps_if hc ha hb).weak fun D σ H ⟨Ob, Os, env, S, h⟩ => ?_
  rw [exS] at h
  have h := xp_post S h
  refine ⟨Ob, Os, env, S, ?_⟩
  cases e : evE G.T G.cl env c with
  | none => rw [e] at h; exact h.elim
  | some r =>
    rw [e] at h
    cases r with
    | ex c p => exact h
    | ok x =>
      have h : SPost G W Ob Os H D (match truth x.2 with | some true => exSs G.T G.cl fu env a | some false => exSs G.T G.cl fu env b | none => none) := h
      rw [M.bind_ok]
      cases e2 : truth x.2 with
      | none => rw [e2] at h; exact h.elim
      | some k =>
        rw [e2] at h
        refine fun H' s => ?_
        cases k with
        | true => exact ite_tt ⟨Ob, Os, env, S.same s, SPost.mono h (.sm s)⟩
        | false => exact ite_ff ⟨Ob, Os, env, S.same s, SPost.mono h (.sm s)⟩

/-! ### stores -/
theorem box_of {f : Fl} {d : Ev.D} (h : (isBox d && f == .fr) = true) : f = .fr := by
  rw [Bool.and_eq_true] at h
  exact beq_iff_eq.mp h.2
theorem st_var {i : Nat} {f : Fl} {d : Ev.D} {v : V} {env' : Env} (S : StRel G.K G.w Ob Os env σ H) (s : Same H H1) (r : FlR G.K G.w Ob Os H H1 d v f) (e : stP env (.var i) f d = some env') : ∃ Os', Fr Os H Os' H1 ∧ StRel G.K G.w Ob Os' env' (σ.set i (some v)) H1 := by
  unfold stP at e
  simp only [varP] at e
  split at e
  · rename_i hb
    cases e
    have ef := box_of hb
    subst ef
    obtain ⟨b, rfl, hb, c⟩ := r
    refine ⟨b :: Os, .of s fun a h => ?_, S.setOw s hb c⟩
    rcases List.mem_cons.mp h with h | h
    · exact .inr (by rw [h]; exact hb)
    · exact .inl h
  · rw [bindP] at e
    cases e
    cases es : f.still d with
    | true => exact ⟨Os, .sm s, (S.same s).setFz (r.still S.noT s es)⟩
    | false =>
      exact ⟨[], Fr.of s (fun a h => by cases h), (S.same s).freezeAll.setFz (r.outer S.noT S.dj)⟩
theorem frz_fr {Os0 : List Addr} (q : ∀ a ∈ Os0, a ∈ Os) : Fr Os H Os0 H := .of (Same.refl H) fun a h => .inl (q a h)
/-- x = e -/
theorem asgV_red {i : Nat} {a : CE} {D : Ends} {σ : L2.St} {H : Hp} : tS G fu W (.asg (.var i) a) D σ H → tE G W a σ H fun v H1 => D.nx (σ.set i (some v)) H1 := by
  rintro ⟨Ob, Os, env, S, h⟩
  rw [exS] at h
  obtain ⟨Os0, q0, S0⟩ := S.froz (varOf a)
  refine ⟨Ob, Os0, _, S0, MPost.imp (xp_post S0 (SPost.mono h (frz_fr q0))) (fun x hx v H1 s r => ?_) fun c p z => z⟩
  cases e : stP (froz env (varOf a)) (.var i) x.1 x.2 with
  | none => rw [e] at hx; exact hx.elim
  | some env' =>
    rw [e] at hx
    obtain ⟨Os', f, S'⟩ := st_var S0 s r e
    exact hx Os' _ H1 f S'
theorem s_asgV {i : Nat} {x : Str} {a : CE} {e : Expr} {pos' : Pos} (hN : X.N.Nodup) (hi : X.N[i]? = some x) (hx : X.env.scope.names.lookup x = some .local ∨ (X.env.scope.names.lookup x = some .cell ∧ X.fn x = true)) (he : PE X e (tE G W a)) (hs : swapsWith e (some (.Name x pos')) pos.line X.env = pure false) : PS X (.Assign [.Name x pos'] e pos) (tS G fu W (.asg (.var i) a)) := by
  have base : PS X (.Assign [.Name x pos'] e pos) (tAsg (tE G W a) (gName i)) := by
    rcases hx with h | ⟨h, hf⟩
    · exact ps_set hN hi (.inl h) he hs (.inr h)
    · exact ps_set hN hi (.inr h) he hs (.inl hf)
  exact base.weak fun D σ H h => asgV_red h
/-- a, b = e -/
theorem s_asgT {ps : List Pat} {a : CE} {e tg : Expr} (he : PE X e (tE G W a)) (hg : PG X tg (tG G (.tup ps))) (hs : swapsWithSole [tg] e pos.line X.env = pure false) (hw : swappedStores [tg] e X.env = pure none) (h1 : (assignEach [tg] X.env).map (·.2) = [assign tg X.env]) : PS X (.Assign [tg] e pos) (tS G fu W (.asg (.tup ps) a)) := by
  refine (ps_asg he hg hs hw h1).weak fun D σ H ⟨Ob, Os, env, S, h⟩ => ?_
  rw [exS] at h
  obtain ⟨Os0, q0, S0⟩ := S.froz (varOf a)
  refine ⟨Ob, Os0, _, S0, MPost.imp (xp_post S0 (SPost.mono h (frz_fr q0))) (fun x hx v H1 s r => ?_) fun c p z => z⟩
  unfold stP at hx
  simp only [varP] at hx
  cases es : x.1.still x.2 with
  | true =>
    rw [es] at hx
    simp only [if_true] at hx
    cases eb : bindP (froz env (varOf a)) (.tup ps) x.2 with
    | none => rw [eb] at hx; exact hx.elim
    | some env' =>
      rw [eb] at hx
      exact ⟨Ob, Os0, _, _, x.2, env', false, S0.same s, fun _ _ z => z, .inl (r.still S0.noT s es), fun z => (nomatch z), eb, fun σ' S' _ _ => hx Os0 σ' H1 (.sm s) S'⟩
  | false =>
    rw [es] at hx
    simp only [Bool.false_eq_true, if_false] at hx
    cases eb : bindP (freezeAll (froz env (varOf a))) (.tup ps) x.2 with
    | none => rw [eb] at hx; exact hx.elim
    | some env' =>
      rw [eb] at hx
      exact ⟨Ob, [], _, _, x.2, env', false, (S0.same s).freezeAll, fun _ _ z => z, .inl (r.outer S0.noT S0.dj), fun z => (nomatch z), eb, fun σ' S' _ _ => hx [] σ' H1 (.of s fun a h => by cases h) S'⟩
/-- x op= e -/
def rA (K : Frag) (w : World) (o : BOp) : TIp := rB K w (evAug o)
theorem s_aug {i : Nat} {x : Str} {o : BOp} {op : Operator} {a : CE} {e : Expr} {pos' : Pos} (hN : X.N.Nodup) (hi : X.N[i]? = some x) (hx : X.env.scope.names.lookup x = some .local ∨ (X.env.scope.names.lookup x = some .cell ∧ X.fn x = true)) (he : PE X e (tE G W a)) (ho : PIp X op (rA G.K G.w o)) : PS X (.AugAssign (.Name x pos') op e pos) (tS G fu W (.aug i o a)) := by
  have base : PS X (.AugAssign (.Name x pos') op e pos) (tAug i (tE G W a) (rA G.K G.w o)) := by
    rcases hx with h | ⟨h, hf⟩
    · exact ps_aug hN hi (.inl h) he ho (.inr h)
    · exact ps_aug hN hi (.inr h) he ho (.inl hf)
  refine base.weak fun D σ H ⟨Ob, Os, env, S, h⟩ => ?_
  rw [exS] at h
  unfold getS at h
  cases eo : env[i]? with
  | none => rw [eo] at h; exact h.elim
  | some sl =>
  rw [eo] at h
  cases sl with
  | none => exact h.elim
  | some p =>
  obtain ⟨sf, d⟩ := p
  cases sf with
  | ow => exact h.elim
  | fz =>
    obtain ⟨v, hv, rv⟩ := S.slot i .fz d eo
    have h : SPost G W Ob Os H D (xp env (evE G.T G.cl env a) fun y => match evAug o d y.2 with | some (f, d) => nxM (stP env (.var i) (outFl y.1.isUn f d) d) | none => none) := h
    refine ⟨v, hv, Ob, Os, env, S, MPost.imp (xp_post S h) (fun y hy vy H1 s r => ?_) fun c p z => z⟩
    cases ev : evAug o d y.2 with
    | none => rw [ev] at hy; exact hy.elim
    | some q =>
    obtain ⟨fr, d'⟩ := q
    rw [ev] at hy
    have rx : FlR G.K G.w Ob Os H H1 d v .st := Rep.same (Hm_ext s) rv
    refine ⟨_, d, y.2, fr, d', noT_ite y.1.isUn (S.noT.same s), rx.repC (u := y.1.isUn) S.noT s (fun z => nomatch z), r.repC (u := y.1.isUn) S.noT s (fun z => z), ev, fun z H2 s2 hz => ?_⟩
    have S1 := S.same s
    have fz := Out.fl S1.noT s2 hz
    cases es : stP env (.var i) (outFl y.1.isUn fr d') d' with
    | none => simp only [es] at hy; exact hy.elim
    | some env' =>
      simp only [es] at hy
      obtain ⟨Os', f, S'⟩ := st_var S1 s2 fz es
      exact hy Os' _ H2 ((Fr.sm s).trans f) S'
end
end Ev

end
section
/-! Ev9: pairs of stores, append, loops, raise. -/
set_option autoImplicit false
set_option linter.all false
set_option Elab.async false
set_option maxRecDepth 100000
set_option maxHeartbeats 4000000
namespace Ev
open PySem PySem.Spec PyProof.Rows L2

/-! ### arguments, one heap after another -/
inductive FlC (K : Frag) (w : World) (Os : List Addr) : List Addr → Hp → Hp → List (Fl × D) → List V → Prop
  | nil {Ob : List Addr} {H H' : Hp} : Same H H' → FlC K w Os Ob H H' [] []
  | cons {Ob : List Addr} {H H1 H' : Hp} {f : Fl} {d : D} {v : V} {rs : List (Fl × D)} {vs : List V} : Same H H1 → f ≠ .fr → FlR K w Ob Os H H1 d v f → FlC K w Os Ob H1 H' rs vs → FlC K w Os Ob H H' ((f, d) :: rs) (v :: vs)
  | fr {Ob : List Addr} {H H1 H' : Hp} {d : D} {b : Addr} {rs : List (Fl × D)} {vs : List V} : Same H H1 → H b = none → Cont K w (Hm H1 (b :: (Os ++ Ob))) H1 b d → FlC K w Os (b :: Ob) H1 H' rs vs → FlC K w Os Ob H H' ((.fr, d) :: rs) (.ref b :: vs)
theorem FlC.sm {K : Frag} {w : World} {Os Ob : List Addr} {H H' : Hp} {rs : List (Fl × D)} {vs : List V} (h : FlC K w Os Ob H H' rs vs) : Same H H' := by
  induction h with
  | nil s => exact s
  | cons s _ _ _ ih => exact s.trans ih
  | fr s _ _ _ ih => exact s.trans ih
theorem FlR.lessOb {K : Frag} {w : World} {Os Ob Ob' : List Addr} {H H' : Hp} {d : D} {v : V} {f : Fl} (h : FlR K w Ob' Os H H' d v f) (q : ∀ a ∈ Ob, a ∈ Ob') : FlR K w Ob Os H H' d v f := by
  have q2 : ∀ a, a ∈ Os ++ Ob → a ∈ Os ++ Ob' := fun a z => by
    rcases List.mem_append.mp z with z | z
    · exact List.mem_append_left _ z
    · exact List.mem_append_right _ (q a z)
  cases f with
  | st => exact Rep.same (Hm_sub q2) h
  | fr =>
    obtain ⟨b, e, hb, c⟩ := h
    refine ⟨b, e, hb, c.same (Hm_sub fun a z => ?_) fun o z => z⟩
    rcases List.mem_cons.mp z with z | z
    · rw [z]; exact List.mem_cons_self
    · exact List.mem_cons_of_mem _ (q2 a z)
  | ow =>
    obtain ⟨b, e, hb, c⟩ := h
    exact ⟨b, e, hb, c.same (Hm_sub q2) fun o z => z⟩
  | un => exact Rep.same (Hm_sub q) h
theorem FlC.flat {G : Lg} {Os Ob Ob0 : List Addr} {H H' : Hp} {rs : List (Fl × D)} {vs : List V} (h : FlC G.K G.w Os Ob H H' rs vs) (q : ∀ a ∈ Ob0, a ∈ Ob) : FlRs G Ob0 Os H H' rs vs := by
  induction h with
  | nil => exact .nil
  | cons s _ r t ih => exact .cons ((r.lessOb q).same t.sm) (FlRs.base (ih q) s)
  | @fr Ob H H1 H' d b rs vs s hb c t ih =>
    refine .cons (FlR.same (FlR.lessOb (f := .fr) ⟨b, rfl, hb, c⟩ q) t.sm) (FlRs.base (ih fun a z => List.mem_cons_of_mem _ (q a z)) s)
section
variable (G : Lg)
def tAF (W : WX) (cs : CEs) : TA := fun σ H Q => ∃ Ob Os env, StRel G.K G.w Ob Os env σ H ∧ MPost (evEs G.T G.cl env cs) (fun rs => ∀ vs H', FlC G.K G.w Os Ob H H' rs vs → Q vs H') (XP G W σ H)
end
section
variable {G : Lg} {fu : Nat} {X : Cx} {W : WX} {pos : Pos} {Ob Os Os1 : List Addr} {env : Env} {σ : L2.St} {H H1 : Hp} {D : Ends}
theorem PA.plain {es : List Expr} {cs : CEs} (h : PA X es (tAF G W cs)) : PA X es (tA G W cs) := h.weak fun σ H Q ⟨Ob, Os, env, S, q⟩ => ⟨Ob, Os, env, S, MPost.imp q (fun rs z vs H' c => z vs H' c.sm (c.flat fun a h => h)) fun c p z => z⟩
theorem aF_nil : PA X [] (tAF G W .nil) := pa_nil.weak fun σ H Q ⟨Ob, Os, env, S, h⟩ => by
  rw [evEs] at h
  exact h [] H (.nil (Same.refl H))
theorem aF_cons {a : CE} {as : CEs} {e : Expr} {es : List Expr} (ha : PE X e (tE G W a)) (hr : PA X es (tAF G W as)) (hs : starEach (e :: es) X.env = (false, eval e X.env) :: starEach es X.env) : PA X (e :: es) (tAF G W (.cons a as)) := by
  refine (pa_cons ha hr hs).weak fun σ H Q ⟨Ob, Os, env, S, h⟩ => ?_
  rw [evEs] at h
  refine one S h fun x vx H' s rx hq => ?_
  obtain ⟨f, d⟩ := x
  by_cases ef : f = .fr
  · subst ef
    obtain ⟨b, rfl, hb, c⟩ := rx
    refine ⟨b :: Ob, Os, env, S.moreOb s hb c.some, MPost.imp (MPost.bind hq) (fun rs z vs H2 r2 => ?_) fun c p z => XP.same G z s⟩
    exact z (.ref b :: vs) H2 (.fr s hb c r2)
  · refine ⟨Ob, Os, env, S.same s, MPost.imp (MPost.bind hq) (fun rs z vs H2 r2 => ?_) fun c p z => XP.same G z s⟩
    exact z (vx :: vs) H2 (.cons s ef rx r2)

/-! ### a, b = x, y -/
def setAll (σ : L2.St) : List Nat → List V → L2.St
  | i :: is, v :: vs => setAll (σ.set i (some v)) is vs
  | _, _ => σ
theorem parS_ok {Ob0 : List Addr} {H H' : Hp} {xs : List (Fl × Ev.D)} {vs : List V} (c : FlC G.K G.w Os Ob H H' xs vs) : ∀ {is : List Nat} {Os' : List Addr} {env env' : Env} {σ : L2.St}, StRel G.K G.w Ob0 Os' env σ H → (∀ a, a ∈ Os' ++ Ob0 → a ∈ Os ++ Ob) →
    parS env is xs = some env' → ∃ Os2, (∀ a ∈ Os2, a ∈ Os' ∨ H a = none) ∧ StRel G.K G.w Ob0 Os2 env' (setAll σ is vs) H' := by
  induction c with
  | nil s =>
    intro is Os' env env' σ S q h
    cases is with
    | nil => cases h; exact ⟨Os', fun a z => .inl z, S.same s⟩
    | cons i is => cases h
  | @cons Ob H H1 H' f d v rs vs s hf r t ih =>
    intro is Os' env env' σ S q h
    cases is with
    | nil => cases h
    | cons i is =>
      unfold parS at h
      split at h
      · rename_i hff
        have ef : f = .st := by
          cases f with
          | st => rfl
          | fr => exact absurd rfl hf
          | ow => cases hff
          | un => cases hff
        subst ef
        have r : Rep G.K G.w (Hm H1 (Os ++ Ob)) d v := r
        have e : stP env (.var i) .st d = some (env.set i (some (.fz, d))) := by
          unfold stP
          simp only [varP]
          rw [if_neg (by simp)]
          rfl
        rw [e] at h
        obtain ⟨Os2, q2, S2⟩ := ih ((S.same s).setFz (i := i) (r.same (Hm_sub q))) q h
        refine ⟨Os2, fun a z => ?_, S2⟩
        rcases q2 a z with z | z
        · exact .inl z
        · exact .inr (s.free z)
      · cases h
  | @fr Ob H H1 H' d b rs vs s hb c t ih =>
    intro is Os' env env' σ S q h
    cases is with
    | nil => cases h
    | cons i is =>
      unfold parS at h
      have e : stP env (.var i) .fr d = some (env.set i (some (.ow, d))) := by
        unfold stP
        simp only [varP, c.box]
        rfl
      rw [if_pos (by decide), e] at h
      have c' : Cont G.K G.w (Hm H1 (b :: (Os' ++ Ob0))) H1 b d := c.same (Hm_sub fun a z => by
        rcases List.mem_cons.mp z with z | z
        · rw [z]; exact List.mem_cons_self
        · exact List.mem_cons_of_mem _ (q a z)) fun o z => z
      obtain ⟨Os2, q2, S2⟩ := ih (S.setOw s (i := i) hb c') (fun a z => by
        rcases List.mem_append.mp z with z | z
        · rcases List.mem_cons.mp z with z | z
          · rw [z]; exact List.mem_append_right _ List.mem_cons_self
          · rcases List.mem_append.mp (q a (List.mem_append_left _ z)) with z | z
            · exact List.mem_append_left _ z
            · exact List.mem_append_right _ (List.mem_cons_of_mem _ z)
        · rcases List.mem_append.mp (q a (List.mem_append_right _ z)) with z | z
          · exact List.mem_append_left _ z
          · exact List.mem_append_right _ (List.mem_cons_of_mem _ z)) h
      refine ⟨Os2, fun a z => ?_, S2⟩
      rcases q2 a z with z | z
      · rcases List.mem_cons.mp z with z | z
        · exact .inr (by rw [z]; exact hb)
        · exact .inl z
      · exact .inr (s.free z)
theorem s_par2 {i j : Nat} {x y : Str} {as : CEs} {a b : Expr} {px py pt : Pos} {kt k2 : Nat} {pt2 : Pos} (hc : X.calm = true) (hN : X.N.Nodup) (hi : X.N[i]? = some x) (hj : X.N[j]? = some y) (hij : i ≠ j) (hx : X.env.scope.names.lookup x = some .local) (hy : X.env.scope.names.lookup y = some .local)
    (ha : PA X [a, b] (tAF G W as)) (hl : as.len = 2) (hw : swappedStores [.Tuple [.Name x px, .Name y py] kt pt] (.Tuple [a, b] k2 pt2) X.env = pure (some [x, y])) (hs : swapsWithSole [.Tuple [.Name x px, .Name y py] kt pt] (.Tuple [a, b] k2 pt2) pos.line X.env = pure false) :
    PS X (.Assign [.Tuple [.Name x px, .Name y py] kt pt] (.Tuple [a, b] k2 pt2) pos) (tS G fu W (.par [i, j] as)) := by
  refine (ps_par hc hN hi hj hij hx hy ha hw hs).weak fun D σ H ⟨Ob, Os, env, S, h⟩ => ?_
  rw [exS] at h
  obtain ⟨Os0, q0, S0⟩ := S.froz (varsOf as)
  refine ⟨Ob, Os0, _, S0, ?_⟩
  have h := xp_post S0 (SPost.mono h (frz_fr q0))
  cases ee : evEs G.T G.cl (froz env (varsOf as)) as with
  | none => rw [ee] at h; exact h
  | some r =>
  rw [ee] at h
  cases r with
  | ex c p => exact h
  | ok xs =>
    have hx := evEs_len ee
    refine fun vs H' c => ?_
    have h : SPost G W Ob Os0 H D (nxM (parS (froz env (varsOf as)) [i, j] xs)) := h
    cases ep : parS (froz env (varsOf as)) [i, j] xs with
    | none => rw [ep] at h; exact h.elim
    | some env' =>
      rw [ep] at h
      obtain ⟨Os2, q2, S2⟩ := parS_ok c S0 (fun a z => z) ep
      have lv : vs.length = 2 := by
        have := (c.flat (G := G) fun a h => h).length
        omega
      match vs, lv with
      | [v, w], _ => exact ⟨v, w, rfl, h Os2 _ H' (.of c.sm q2) S2⟩

/-! ### xs.append(e) -/
theorem s_app {i : Nat} {x : Str} {a : CE} {e : Expr} {px apos cpos : Pos} (hK : X.K = G.K) (hN : X.N[i]? = some x) (hv : Vis X.env.scope x) (hd : (x == ("__debug__" : Str)) = false) (hcd : (x == ("__classdict__" : Str)) = false) (he : PE X e (tE G W a)) (hs1 : NoStar X [e])
    (hline : (apos.endLine == cpos.line) = true) : PS X (.Expr (.Call (.Attribute (.Name x px) "append" apos) [e] [] cpos) pos) (tS G fu W (.app i a)) := by
  have hs0 : NoStar X [] := rfl
  have hb : attributeBase (.Name x px) "append" X.env (eval (.Name x px) X.env) = eval (.Name x px) X.env := rfl
  have hm : MtR X "list.append" rAppend := mt_append
  have h1 := pe_bm (apos := apos) (cpos := cpos) F.plainAttrs_list F.slot_list_append F.type_list_append hm (pe_var (pos := px) hN hv hd hcd) (pa_cons he pa_nil (hs1.head hs0)) hb
    (by
      have : (backTo cpos (starEach [e] X.env)).all (fun x => !x.1) = true := by
        unfold NoStar at hs1
        rw [hs1]
        rfl
      rw [this]
      rfl) hline (hs1.head hs0) (hs0.any cpos)
  refine (ps_expr h1 (by rfl)).weak fun D σ H ⟨Ob, Os, env, S, h⟩ => ?_
  rw [exS] at h
  cases eo : ownAt env i with
  | none => rw [eo] at h; exact h.elim
  | some dl =>
  rw [eo] at h
  cases dl with
  | lst ds =>
    have h : SPost G W Ob Os H D (xp env (evE G.T G.cl env a) fun y => if y.1.still y.2 && lenLe (ds ++ [y.2]) line then some (.nx (env.set i (some (.ow, .lst (ds ++ [y.2]))))) else none) := h
    obtain ⟨b, hv', hb, es⟩ : ∃ b, σ[i]? = some (some (.ref b)) ∧ (b ∈ Os ∧ Cont G.K G.w (Hm H (Os ++ Ob)) H b (.lst ds)) ∧ env[i]? = some (some (.ow, .lst ds)) := by
      unfold ownAt getS at eo
      cases es : env[i]? with
      | none => rw [es] at eo; cases eo
      | some sl =>
        rw [es] at eo
        cases sl with
        | none => cases eo
        | some p =>
          obtain ⟨sf, d⟩ := p
          cases sf with
          | fz => cases eo
          | ow =>
            cases eo
            obtain ⟨v, h1, b, rfl, hb, c⟩ := S.slot i .ow _ es
            exact ⟨b, h1, ⟨hb, c⟩, rfl⟩
    obtain ⟨hb, c⟩ := hb
    cases c with
    | @lst _ xs hl hr =>
    refine ⟨.ref b, hv', .inl ⟨rfl, xs, SqL.of hl⟩, Ob, Os, env, S, MPost.imp (xp_post S h) (fun y hy vy H1 s r => ?_) fun c p z => z⟩
    cases ec : (y.1.still y.2 && lenLe (ds ++ [y.2]) line) with
    | false => rw [ec] at hy; exact hy.elim
    | true =>
    rw [ec] at hy
    rw [Bool.and_eq_true] at ec
    have hl1 : H1 b = some (.lst xs) := s _ _ hl
    have hlen := lenLe_size ec.2
    have rl := hr.length
    simp only [List.length_append, List.length_singleton] at hlen
    refine ⟨b, xs, vy, rfl, rfl, hl1, by omega, ?_⟩
    have S1 := S.same s
    have rv := r.still S.noT s ec.1
    have c' : Cont G.K G.w (Hm H1 (Os ++ Ob)) (upd H1 b (.lst (xs ++ [vy]))) b (.lst (ds ++ [y.2])) := .lst upd_same ((hr.same (Hm_ext s)).append (.one rv))
    exact hy Os _ _ ((Fr.sm s).trans ⟨upd_hm hb, fun a h => .inl h⟩) (S1.write es hv' c')
  | _ => exact h.elim
end
end Ev

end
section
/-! Ev10: loops, raise, try. -/
set_option autoImplicit false
set_option linter.all false
set_option Elab.async false
set_option maxRecDepth 100000
set_option maxHeartbeats 4000000
namespace Ev
open PySem PySem.Spec PyProof.Rows L2
section
variable {G : Lg} {fu : Nat} {X : Cx} {W : WX} {pos : Pos} {Ob Os Os1 : List Addr} {env : Env} {σ : L2.St} {H H1 : Hp} {D : Ends}
theorem froz_no {is : List Nat} {i : Nat} (h : i ∈ is) (d : Ev.D) : (froz env is)[i]? ≠ some (some (.ow, d)) := fun e => (froz_own is env i d e).1 h
theorem s_for {p : Pat} {it : CI} {b : CSs} {tg iter : Expr} {body : List Stmt} (hp : PassesOwn (model X.prog X.w) X.A X.env X.xe) (hc : X.calm = true) (hi : PI X tg iter (tI G W it)) (hg : PG X tg (tG G p)) (hb : PSs X body (tSs G fu W b))
    (hs : ∀ x, foldedSetIterable iter X.env x = pure x) (hpr : paired it = true → isTupP p = true) : PS X (.For tg iter body [] pos) (tS G fu W (.forS p it b)) := by
  refine (ps_for hp hc hi hg hb hs).weak fun D σ H ⟨Ob, Os, env, S, h⟩ => ?_
  rw [exS] at h
  obtain ⟨Os0, q0, S0⟩ := S.froz (ciVars it)
  refine ⟨Ob, Os0, _, S0, MPost.imp (xp_post S0 (SPost.mono h (frz_fr q0))) (fun q hq J H1 s hJ => ?_) fun c p z => z⟩
  obtain ⟨sol, ds⟩ := q
  generalize hE : froz env (ciVars it) = env0 at S0 hq hJ
  cases sol with
  | false => exact hq.elim
  | true =>
  have hq : SPost G W Ob Os0 H D (loop (fun e d => match bindP e p d with | some e1 => exSs G.T G.cl fu e1 b | none => none) ds env0) := hq
  generalize hF : (fun (e : Env) (d : Ev.D) => (match bindP e p d with | some e1 => exSs G.T G.cl fu e1 b | none => none : SM)) = f at hq
  have J0 := hJ Os0 (.inr ⟨fun a z => List.mem_append_left _ z, rfl, fun i hi d => by rw [← hE]; exact froz_no hi d⟩)
  refine ⟨fun i m σ' H' => m = ds.length - i ∧ i ≤ ds.length ∧ ∃ Os' env', Fr Os0 H1 Os' H' ∧ StRel G.K G.w Ob Os' env' σ' H' ∧ SPost G W Ob Os' H' D (loop f (ds.drop i) env'),
    ⟨ds.length, rfl, Nat.zero_le _, Os0, env0, .refl _ _, S0.same s, SPost.mono hq (.sm s)⟩, ?_⟩
  rintro i m σ' H' ⟨rfl, hi', Os', env', fr, S', hl⟩
  obtain ⟨stop, go⟩ := J0 i H' fr.same
  rcases (Nat.lt_or_ge i ds.length).symm with hge | hlt
  · have e0 : i = ds.length := by omega
    subst e0
    rw [List.drop_length] at hl
    exact .inl ⟨stop (Nat.le_refl _), hl Os' σ' H' (.refl _ _) S'⟩
  · have ed : ds[i]? = some ds[i] := List.getElem?_eq_getElem hlt
    obtain ⟨hgo, hy⟩ := go _ ed
    rw [List.drop_eq_getElem_cons hlt, loop] at hl
    refine .inr ⟨hgo, fun σ' H' => i + 1 ≤ ds.length ∧ ∃ Os' env', Fr Os0 H1 Os' H' ∧ StRel G.K G.w Ob Os' env' σ' H' ∧ SPost G W Ob Os' H' D (loop f (ds.drop (i + 1)) env'), fun σ' H' z => ⟨ds.length - (i + 1), by omega, rfl, z⟩, fun x H2 y => ?_⟩
    obtain ⟨s2, ir⟩ := hy x H2 y
    have hf : f env' ds[i] = match bindP env' p ds[i] with | some e1 => exSs G.T G.cl fu e1 b | none => none := by rw [← hF]
    rw [hf] at hl
    cases eb : bindP env' p ds[i] with
    | none => rw [eb] at hl; exact hl.elim
    | some e1 =>
    rw [eb] at hl
    dsimp only at hl
    have sub : Same (Hm H1 (Os0 ++ Ob)) (Hm H2 (Os' ++ Ob)) := fun a o h => by
      obtain ⟨n, e⟩ := Hm_of h
      have n0 : a ∉ Os0 := fun z => n (List.mem_append_left _ z)
      rw [Hm_at fun z => ?_]
      · exact s2 _ _ (fr.same a o (by rw [Hm_at n0]; exact e))
      · rcases List.mem_append.mp z with z | z
        · rcases fr.new a z with z | z
          · exact n0 z
          · rw [z] at e; cases e
        · exact n (List.mem_append_right _ z)
    refine ⟨Ob, Os', env', _, ds[i], e1, paired it, S'.same s2, sub, ir, hpr, eb, fun σ2 S2 _ _ => ⟨Ob, Os', e1, S2, ?_⟩⟩
    have fr2 : Fr Os0 H1 Os' H2 := fr.trans (.sm s2)
    have hl := SPost.mono hl (.sm s2)
    cases ex : exSs G.T G.cl fu e1 b with
    | none => rw [ex] at hl; exact hl
    | some r =>
      rw [ex] at hl
      cases r with
      | nx e => exact fun Os3 σ3 H3 f3 S3 => ⟨hlt, Os3, e, fr2.trans f3, S3, SPost.mono hl f3⟩
      | ct e => exact fun Os3 σ3 H3 f3 S3 => ⟨hlt, Os3, e, fr2.trans f3, S3, SPost.mono hl f3⟩
      | bk e => exact hl
      | rt f' d => exact hl
      | ex e c p => exact hl
theorem s_whl {c : CE} {b : CSs} {ec : Expr} {body : List Stmt} (hp : PassesOwn (model X.prog X.w) X.A X.env X.xe) (hc : PT X ec (tT G W c)) (hb : PSs X body (tSs G fu W b)) : PS X (.While ec body [] pos) (tS G fu W (.whl c b)) := by
  refine (ps_while hp hc hb).weak fun D σ H ⟨Ob, Os, env, S, h⟩ => ?_
  rw [exS] at h
  refine ⟨fun m σ' H' => ∃ Os' env', Fr Os H Os' H' ∧ StRel G.K G.w Ob Os' env' σ' H' ∧ SPost G W Ob Os' H' D (whileN (fun e => (evE G.T G.cl e c).bind fun x => liftM (truth x.2)) (fun e => exSs G.T G.cl fu e b) m env'), ⟨fu, Os, env, .refl _ _, S, h⟩, ?_⟩
  rintro m σ' H' ⟨Os', env', fr, S', hl⟩
  cases m with
  | zero => exact hl.elim
  | succ n =>
    rw [whileN] at hl
    refine ⟨Ob, Os', env', S', MPost.imp (xp_post S' hl) (fun k hk H1 s => ?_) fun c p z => z⟩
    cases k with
    | false => exact ite_ff (hk Os' σ' H1 (.sm s) (S'.same s))
    | true =>
      refine ite_tt ⟨fun σ'' H'' => ∃ m', m' < n + 1 ∧ ∃ Os' env', Fr Os H Os' H'' ∧ StRel G.K G.w Ob Os' env' σ'' H'' ∧ SPost G W Ob Os' H'' D (whileN (fun e => (evE G.T G.cl e c).bind fun x => liftM (truth x.2)) (fun e => exSs G.T G.cl fu e b) m' env'), fun σ'' H'' z => z, Ob, Os', env', S'.same s, ?_⟩
      have fr2 : Fr Os H Os' H1 := fr.trans (.sm s)
      have hl := SPost.mono hk (.sm s)
      simp only [if_true] at hl
      cases ex : exSs G.T G.cl fu env' b with
      | none => rw [ex] at hl; exact hl
      | some r =>
        rw [ex] at hl
        cases r with
        | nx e => exact fun Os3 σ3 H3 f3 S3 => ⟨n, by omega, Os3, e, fr2.trans f3, S3, SPost.mono hl f3⟩
        | ct e => exact fun Os3 σ3 H3 f3 S3 => ⟨n, by omega, Os3, e, fr2.trans f3, S3, SPost.mono hl f3⟩
        | bk e => exact hl
        | rt f' d => exact hl
        | ex e c p => exact hl

/-! ### raise X('m') -/
theorem s_raise {c : Nat} {z : List Nat} {x : Str} {jj : Nat} {p p2 p3 : Pos} {C : Addr} {bmB : List Value} {B newId initId : String} (hc : X.calm = true) (tk : Takes X W) (F : ExcBaseFacts B newId initId bmB) (q : PySem.W.excIn X.K C bmB newId = true) (gC : X.mg x = some (.ref C)) (kC : PySem.W.keepIn X.K (.ref C) = true) (r : Raises X (.ref C)) (hg : Gl X x) (hdb : (x == ("__debug__" : Str)) = false)
    (hx : G.xt.addr c = some C) (hf : G.xt.flds c = []) : PS X (.Raise (some (.Call (.Name x p) [.Constant (.str (sv z)) jj p2] [] p3)) none pos) (tS G fu W (.raise c (.cons (.con (.str z)) .nil))) := by
  refine (ps_raise hc tk (pmk_own F q gC kC r hg hdb)).weak fun D σ H ⟨Ob, Os, env, S, h⟩ => ?_
  rw [exS, evEs, evE, evEs] at h
  simp only [okM, M.bind_ok, xp, stills, Fl.still, Bool.and_self, if_true, Ev.vals] at h
  exact h Os σ H (.refl _ _) S _ _ ⟨C, hx, rfl, .inl ⟨hf, rfl⟩⟩
end

/-! ### try: body, except x [as n]: suite .. -/
section
variable {X : Cx}
structure Cl where
  c : Value
  nm : Option Nat
  ts : Addr → Value → Option Addr → TS
/-- where a clause names the error: its slot, emptied behind the suite -/
def inSlot (σ : L2.St) (a : Addr) : Option Nat → L2.St
  | none => σ
  | some i => σ.set i (some (.ref a))
def outSlot (D : Ends) : Option Nat → Ends
  | none => D
  | some i => { nx := fun σ' H' => D.nx (σ'.set i none) H', rt := D.rt, bk := fun σ' H' => D.bk (σ'.set i none) H', ct := fun σ' H' => D.ct (σ'.set i none) H' }
def wCl (K : Frag) (Wout : WX) (D : Ends) : List Cl → WX
  | [] => Wout
  | k :: r => fun cls d σ H => ∃ b, PySem.W.exmOne K cls k.c = some b ∧ (b = true → ∀ a, H a = none → k.ts a cls d (outSlot D k.nm) (inSlot σ a k.nm) H) ∧ (b = false → wCl K Wout D r cls d σ H)
inductive ClsOk (X : Cx) : List ExceptHandler → List Cl → Prop
  | nil : ClsOk X [] []
  | cons {x : Str} {k : Cl} {n : Option Str} {b₀ : Stmt} {suite : List Stmt} {np pos' : Pos} {hds : List ExceptHandler} {l : List Cl} (hc : Names X x k.c) (hn : (n = none ∧ k.nm = none) ∨ ∃ i y, n = some y ∧ k.nm = some i ∧ X.N[i]? = some y ∧ X.env.scope.names.lookup y = some .local)
      (hsu : ∀ (a : Addr) (oe : Obj) (cls : Value) (d : Option Addr) (pn : List (Addr × Obj)), Zc cls d oe → (∃ vs, oe.data = .fields vs) → PSs (X.suite a ((a, oe) :: pn)) (b₀ :: suite) (k.ts a cls d)) (r : ClsOk X hds l) :
      ClsOk X (.ExceptHandler (some (.Name x np)) n (b₀ :: suite) pos' :: hds) (k :: l)
variable {body : List Stmt} {h₀ : ExceptHandler} {hds : List ExceptHandler} {l : List Cl} {pos : Pos} {tb : WX → TS} {Wout : WX}
theorem ps_tryC (hs : X.stack = X.env :: X.outer) (hf : X.env.frame = some X.env.locals) (hN : X.N.Nodup) (tk : Takes X Wout)
    (hb : ∀ (W : WX) (pn : List (Addr × Obj)) (xe : Value → Shared → Prop), Takes (X.tr pn xe) W → PassesOwn (model X.prog X.w) X.A X.env xe → PSs (X.tr pn xe) body (tb W))
    (hh : ClsOk X (h₀ :: hds) l) : PS X (.Try body (h₀ :: hds) [] [] pos) (fun D σ H => tb (wCl X.K Wout D l) D σ H) := by
  refine ⟨fun pins s σ H D I h => ?_⟩
  have ok := I.ok
  have hfr : X.A.frames = some (X.env :: X.outer) := by rw [ok.frames, hs]
  refine wpAny_Try_except ?_
  refine wpAny_mono ((hb (wCl X.K Wout D l) (X.pn ++ pins) (fun e s₁ => wpAny (model X.prog X.w) X.A (noteFrame e X.env) (fun _ s₂ => wpAny (model X.prog X.w) X.A (setFlight e none) (fun _ s₃ =>
    wpAny (model X.prog X.w) X.A (handleBy e X.env (h₀ :: hds)) (SP X pins D) X.xe s₃) X.xe s₂) X.xe s₁) (fun u s' xx => ?_) PassesOwn.looking).run [] s σ H D (I.toTry _) h) (fun f s1 hsp => ?_) (fun e s1 he => he)
  · obtain ⟨a, B, sI, pins', σ', H', cls, d, rfl, J', nb, up, sky, na, os, ag, w⟩ := xx
    have J : Inv X pins σ' H' sI := J'.ofTry ok
    have sky' : Sky B (X.env :: X.outer) a (Zc cls d) X.env.locals s'.heap := by rw [← hs]; exact sky
    show wpAny (model X.prog X.w) X.A (noteFrame (.ref a) X.env) _ _ _
    refine Sky.land Zc.steady hfr hf sky' fun h3 fl3 up3 => ?_
    have J3 : Inv X pins σ' H' { s' with heap := h3 } := J.landed nb fl3.1 (up.trans up3) os ag
    obtain ⟨oe3, vs3, he3, hz3, hd3⟩ := fl3.there
    have notFr : ∀ {h : Heap} {o : Obj} {vs : Array Value}, h.FunFrames B (X.env :: X.outer) → h.get? a = some o → o.data = .fields vs → a ∉ frs (X.env :: X.outer) := fun {h o vs} ff e dd hm => by
      obtain ⟨_, o', e', hnf⟩ := ff.mem hm
      rw [e] at e'; cases e'
      exact hnf _ dd
    have nfr := notFr fl3.2.2.1 he3 hd3
    have nL : a ≠ X.env.locals := fun z => nfr (List.mem_filterMap.mpr ⟨X.env, List.mem_cons_self, by rw [hf, z]⟩)
    have nF : a ∉ X.fs := fun hm => by
      obtain ⟨e, he, q⟩ := List.mem_filterMap.mp hm
      exact nfr (List.mem_filterMap.mpr ⟨e, List.mem_cons_of_mem _ he, q⟩)
    have S3 := J3.suite he3 hd3 na nL nF
    have go : ∀ {hds' : List ExceptHandler} {l' : List Cl}, ClsOk X hds' l' → wCl X.K Wout D l' cls d σ' H' →
        wpAny (model X.prog X.w) X.A (handleBy (.ref a) X.env hds') (SP X pins D) X.xe { s' with heap := h3 } := by
      intro hds' l' hk
      induction hk with
      | nil =>
        intro w
        refine wpAny_handleBy_nil ?_
        obtain ⟨k1, k2, k3, oe, vs, T, oT, ts', he, hz, hd, h1, hr⟩ := id fl3
        unfold PySem.passOn
        refine wpAny_bind (wpAny_field he hd h1 ?_)
        rw [if_neg (show ¬ ((Value.ref T == Value.none) = true) from by simp)]
        have fin : wpAny (model X.prog X.w) X.A (setFlight (.ref a) X.env.frame) (fun _ s4 => wpAny (model X.prog X.w) X.A (throw (.ref a) : Sem Flow) (SP X pins D) X.xe s4) X.xe { s' with heap := h3 } := by
          rw [hf]
          refine HandSPX.setFlight_upZ fl3 fun h4 hh4 up4 => wpAny_throw (tk _ _ ?_)
          exact ⟨a, B, sI, pins, σ', H', cls, d, rfl, J, nb, (up.trans up3).trans up4, .inr (.inr (by rw [hs]; exact hh4)), na, os, ag, w⟩
        first
          | exact wpAny_bind (wpAny_pure (wpAny_bind fin))
          | exact wpAny_bind fin
      | @cons x k n b₀ suite np pos' hds2 l2 hc hn hsu r ih =>
        intro w
        obtain ⟨b, hb1, hyes, hno⟩ := w
        refine wpAny_handleBy_cons (codeAny_handlers_test ?_) (by intro q; cases q)
        have LT : PySem.W.Looks (model X.prog X.w) h3 (typeOf (.ref a)) cls := fun A Q E s k q => wpAny_typeOf_ref (k _ _ he3) (by rw [hz3.1]; exact q)
        have LM := PySem.W.exm_one (M := model X.prog X.w) (J3.kIn) LT hb1
        have test : ∀ {Q : Value → Shared → Prop} {E : Value → Shared → Prop}, Q k.c { s' with heap := h3 } → wpAny (model X.prog X.w) (X.A.mark (some (.ref a))) (eval (.Name x np) X.env) Q E { s' with heap := h3 } := fun {Q E} q => by
          obtain ⟨hg, hdbg, hm | ⟨hm, hv, hnn⟩⟩ := hc
          · exact ld_glob (X := X.suite a ((a, oe3) :: (X.pn ++ pins))) S3 hg hm q hdbg
          · exact ld_blt (X := X.suite a ((a, oe3) :: (X.pn ++ pins))) S3 hg hm hv q hnn hdbg
        refine test (LM.here ?_)
        cases b with
        | true =>
          have hyes := hyes rfl
          rcases hn with ⟨rfl, en⟩ | ⟨i, y, rfl, en, hiy, hly⟩
          · rw [en] at hyes
            refine codeAny_handlers_suite ?_
            refine HandSPX.lands_againZ fl3 fun h4 fl4 up4 => ?_
            have J4 : Inv X pins σ' H' { s' with heap := h4 } := J.landed nb fl4.1 ((up.trans up3).trans up4) os ag
            obtain ⟨oe4, vs4, he4, hz4, hd4⟩ := fl4.there
            have S4 := J4.suite he4 hd4 na nL nF
            refine wpAny_mono ((hsu a oe4 cls d (X.pn ++ pins) hz4 ⟨_, hd4⟩).run [] _ _ H' _ S4 (hyes a na)) (fun f s6 hsp => ?_) (fun _ _ z => False.elim z)
            cases f with
            | next => exact let ⟨σ6, H6, S6, q6⟩ := hsp; ⟨_, _, S6.unsuite ok, q6⟩
            | brk => exact let ⟨σ6, H6, S6, q6⟩ := hsp; ⟨_, _, S6.unsuite ok, q6⟩
            | cont => exact let ⟨σ6, H6, S6, q6⟩ := hsp; ⟨_, _, S6.unsuite ok, q6⟩
            | ret u => exact let ⟨v6, σ6, H6, S6, r6, q6⟩ := hsp; ⟨_, _, _, S6.unsuite ok, r6, q6⟩
          · rw [en] at hyes
            refine codeAny_handlers_suite_as ?_
            refine HandSPX.lands_againZ fl3 fun h4 fl4 up4 => ?_
            have J4 : Inv X pins σ' H' { s' with heap := h4 } := J.landed nb fl4.1 ((up.trans up3).trans up4) os ag
            obtain ⟨oe4, vs4, he4, hz4, hd4⟩ := fl4.there
            have S4 := J4.suite he4 hd4 na nL nF
            refine store_ok (X := X.suite a ((a, oe4) :: (X.pn ++ pins))) (v := .ref a) S4 hN hiy (.inl hly) rfl (fun s5 S5 => ?_) (.inr hly)
            refine wpAny_mono ((hsu a oe4 cls d (X.pn ++ pins) hz4 ⟨_, hd4⟩).run [] s5 _ H' _ S5 (hyes a na)) (fun f s6 hsp => ?_) (fun _ _ z => False.elim z)
            have end_ : ∀ {σ6 : L2.St} {H6 : Hp} {Q : Shared → Prop}, Inv (X.suite a ((a, oe4) :: (X.pn ++ pins))) [] σ6 H6 s6 → (∀ s7, Inv X pins (σ6.set i none) H6 s7 → Q s7) →
                wpAny (model X.prog X.w) X.A (do bindName X.env y .none; unbindBehindTheSuite X.env y pos') (fun _ s7 => Q s7) X.xe s6 := fun {σ6 H6 Q} S6 hq => gone_ok (S6.unsuite ok) hN hiy hly hq
            cases f with
            | next =>
              obtain ⟨σ6, H6, S6, q6⟩ := hsp
              exact end_ S6 fun s7 J7 => ⟨_, _, J7, q6⟩
            | brk =>
              obtain ⟨σ6, H6, S6, q6⟩ := hsp
              exact end_ S6 fun s7 J7 => ⟨_, _, J7, q6⟩
            | cont =>
              obtain ⟨σ6, H6, S6, q6⟩ := hsp
              exact end_ S6 fun s7 J7 => ⟨_, _, J7, q6⟩
            | ret u =>
              obtain ⟨v6, σ6, H6, S6, r6, q6⟩ := hsp
              exact end_ S6 fun s7 J7 => ⟨_, _, _, J7, r6, q6⟩
        | false => exact ih (hno rfl)
    exact go hh w
  · cases f with
    | next => exact let ⟨σ', H', J', q⟩ := hsp; wpAny_execs_nil ⟨σ', H', J'.ofTry ok, q⟩
    | brk => exact let ⟨σ', H', J', q⟩ := hsp; ⟨σ', H', J'.ofTry ok, q⟩
    | cont => exact let ⟨σ', H', J', q⟩ := hsp; ⟨σ', H', J'.ofTry ok, q⟩
    | ret u => exact let ⟨v, σ', H', J', r, q⟩ := hsp; ⟨v, σ', H', J'.ofTry ok, r, q⟩
end
end Ev

end
section
/-! Ev11: the check that a text's tree is what a term says; it holds for expressions. -/
set_option autoImplicit false
set_option linter.all false
set_option Elab.async false
set_option maxRecDepth 100000
set_option maxHeartbeats 4000000
namespace Ev
open PySem PySem.Spec PyProof.Rows L2

/-! ### what is told once for a program -/
structure Tabs where
  con : List Str
  fns : List (Str × Nat)
  exs : List Str
/-- the block whose text is checked -/
structure Blk where
  N : List Str
  sc : Scope
  st : Str → Bool
def relB (sc scope : Scope) : Scope := { scope with names := scope.names.map fun (n, k) => if (k == .free && sc.kind == .function && sc.names.lookup n == some .cell) then (n, .cell) else (n, k) }
def Blk.inner (B : Blk) (scope : Scope) : Blk := { N := B.N, sc := relB B.sc scope, st := fun x => scope.names.lookup x == some .cell }
structure CkOk (G : Lg) (P : Program) (mg : Str → Option Value) (base : Heap) (k : Nat) (B : Blk) (X : Cx) : Prop where
  P : X.prog = P
  w : X.w = G.w
  K : X.K = G.K
  mg : X.mg = mg
  base : X.base = base
  calm : X.calm = true
  N : X.N = B.N
  nd : B.N.Nodup
  sc : X.env.scope = B.sc
  st : ∀ x, B.st x = true → X.fn x = true
  room : Room k X.A
theorem CkOk.inner {G : Lg} {P : Program} {mg : Str → Option Value} {base : Heap} {k : Nat} {B : Blk} {X : Cx} (h : CkOk G P mg base k B X) (scope : Scope) (s : Shared) (H : Hp) (C : Addr) (cl : List (Str × Addr)) (fp : List Addr) :
    CkOk G P mg base k (B.inner scope) (X.blk s H scope (compEnvC scope cl C X.env) fp) :=
  ⟨h.P, h.w, h.K, h.mg, h.base, h.calm, h.N, h.nd, by show relB X.env.scope scope = _; rw [h.sc]; rfl, fun x e => e, h.room⟩

/-! ### small checks -/
def noStarB (es : List Expr) : Bool := es.all fun e => match e with | .Starred _ _ => false | _ => true
theorem noStar_ok {X : Cx} : ∀ {es : List Expr}, noStarB es = true → NoStar X es
  | [], _ => rfl
  | e :: r, h => by
    unfold noStarB at h
    rw [List.all_cons, Bool.and_eq_true] at h
    have ih : NoStar X r := noStar_ok h.2
    unfold NoStar at ih ⊢
    rw [List.map_cons, ← ih]
    cases e <;> first | rfl | exact nomatch h.1
theorem noStarT_ok {X : Cx} : ∀ {es : List Expr}, noStarB es = true → NoStarT X es
  | [], _ => rfl
  | e :: r, h => by
    unfold noStarB at h
    rw [List.all_cons, Bool.and_eq_true] at h
    have ih : NoStarT X r := noStarT_ok h.2
    unfold NoStarT at ih ⊢
    rw [List.map_cons, ← ih]
    cases e <;> first | rfl | exact nomatch h.1
def visB (sc : Scope) (x : Str) : Bool := match sc.names.lookup x with
  | some .local => true | some .cell => true | some .free => true | _ => false
theorem vis_ok {sc : Scope} {x : Str} (h : visB sc x = true) : Vis sc x := by
  unfold visB at h
  split at h <;> first | exact .inl (by assumption) | exact .inr (.inl (by assumption)) | exact .inr (.inr (by assumption)) | cases h
def nm (x : Str) : Bool := !(x == ("__debug__" : Str)) && !(x == ("__classdict__" : Str)) && !(x == ("__name__" : Str))
theorem nm_ok {x : Str} (h : nm x = true) : (x == ("__debug__" : Str)) = false ∧ (x == ("__classdict__" : Str)) = false ∧ x ≠ ("__name__" : Str) := by
  unfold nm at h
  simp only [Bool.and_eq_true, Bool.not_eq_true'] at h
  exact ⟨h.1.1, h.1.2, fun e => by rw [e] at h; exact absurd h.2 (by decide)⟩
def glB (sc : Scope) (x : Str) : Bool := sc.names.lookup x == some .globalImplicit
theorem gl_ok {X : Cx} {B : Blk} {x : Str} (e : X.env.scope = B.sc) (h : glB B.sc x = true) : Gl X x := by
  unfold glB at h
  show X.env.scope.names.lookup x = _
  rw [e]
  exact beq_iff_eq.mp h
def slotB (B : Blk) (i : Nat) (x : Str) : Bool := decide (B.N[i]? = some x)
def storB (B : Blk) (x : Str) : Bool := match B.sc.names.lookup x with
  | some .local => true
  | some .cell => B.st x
  | _ => false
theorem stor_ok {B : Blk} {x : Str} (h : storB B x = true) : B.sc.names.lookup x = some .local ∨ (B.sc.names.lookup x = some .cell ∧ B.st x = true) := by
  unfold storB at h
  split at h <;> first | exact .inl (by assumption) | exact .inr ⟨by assumption, h⟩ | cases h
def bopB : BOp → Operator → Bool
  | .add, .Add => true | .sub, .Sub => true | .mul, .Mult => true | .fdiv, .FloorDiv => true | .mod, .Mod => true | .pow, .Pow => true
  | _, _ => false
def copB : COp → CmpOp → Bool
  | .eq, .Eq => true | .ne, .NotEq => true | .lt, .Lt => true | .le, .LtE => true | .gt, .Gt => true | .ge, .GtE => true | .is, .Is => true | .isNot, .IsNot => true | .isin, .In => true | .notin, .NotIn => true
  | _, _ => false
def notSet : Expr → Bool
  | .Set _ _ _ => false
  | _ => true
theorem behind_ok {op : CmpOp} {e : Expr} (h : notSet e = true) : behindInMarks op e = false := by cases e <;> first | rfl | cases h
theorem fold_ok {e : Expr} {env : PySem.Env} (h : notSet e = true) : ∀ x, foldedSetIterable e env x = pure x := fun x => by cases e <;> first | rfl | cases h
def notSlice : Expr → Bool
  | .Slice _ _ _ _ => false
  | _ => true
theorem plainIx_ok {e : Expr} (h : notSlice e = true) : PlainIx e := fun o i => by cases e <;> first | rfl | cases h
/-- forms whose truth is their value's -/
def plainT : Expr → Bool
  | .UnaryOp .Not _ _ => false | .BoolOp _ _ _ => false | .IfExp _ _ _ _ => false | .Compare _ _ _ _ => false
  | _ => true
theorem plainT_ok {e : Expr} (h : plainT e = true) : ∀ (env : PySem.Env) (whole : Sem Value), isTrue e env whole = (do let v ← whole; standAt e.pos; holding [v] (truthy v)) := fun env whole => by
  cases e with
  | UnaryOp op a p => cases op <;> first | rfl | cases h
  | BoolOp => cases h
  | IfExp => cases h
  | Compare => cases h
  | _ => rfl
def noSuper : Expr → Bool
  | .Call (.Name _ _) [] [] _ => false
  | _ => true
theorem noSuper_ok {e : Expr} {name : Str} {env : PySem.Env} (h : noSuper e = true) : attributeBase e name env (eval e env) = eval e env := by
  unfold attributeBase
  split
  · cases h
  · rfl
/-- written constants -/
def conB : D → Expr → Bool
  | .non, .Constant .none _ _ => true
  | .bl b, .Constant (.bool b') _ _ => b == b'
  | .int i, .Constant (.int j) _ _ => i == j
  | .str x, .Constant (.str y) _ _ => decide (sv x = y)
  | _, _ => false
theorem con_ok {G : Lg} {X : Cx} {d : D} {e : Expr} (h : conB d e = true) : ∃ v, (∀ H, Rep G.K G.w H d v) ∧ PE X e (tC v) := by
  unfold conB at h
  split at h
  · exact ⟨.non, fun H => .non, pe_non⟩
  · rename_i b b' _ _
    cases (beq_iff_eq.mp h)
    exact ⟨.bl b, fun H => .bl b, pe_bl⟩
  · rename_i i j _ _
    cases (beq_iff_eq.mp h)
    exact ⟨.int i, fun H => .int i, pe_int⟩
  · rename_i x y _ _
    cases (of_decide_eq_true h)
    exact ⟨.str (sv x), fun H => .str x, pe_str⟩
  · cases h
/-- builtins by their numbers: name, is it a type, what it is -/
def bltNm : Nat → Option (Str × Bool × String)
  | 0 => some ("len", false, "len")
  | 1 => some ("tuple", true, "tuple")
  | 2 => some ("list", true, "list")
  | 5 => some ("min", false, "min")
  | 7 => some ("all", false, "all")
  | 8 => some ("any", false, "any")
  | 9 => some ("abs", false, "abs")
  | 10 => some ("int", true, "int")
  | _ => none
def mthNm : Nat → Option Str
  | 2 => some "index"
  | _ => none
/-- the names of builtins that the texts lean on -/
def bltAll : List Str := ["len", "tuple", "list", "min", "max", "sum", "sorted", "set", "dict", "all", "any", "abs", "int", "str", "bool", "isinstance", "range", "enumerate", "zip"]
def tyN (t : Ty) : Str := Str.ofString (tyName t)
def ownOf (N : List Str) (vs : List Nat) : List (Str × Nat) := vs.map fun i => (N.getD i "", i)
def exprLen30 {α : Type} : List α → Bool := fun l => lenLe l 20

structure PrimOk (G : Lg) (P : Program) (mg : Str → Option Value) (base : Heap) (k : Nat) : Prop where
  bin : ∀ {B X} (_ : CkOk G P mg base k B X) (o : BOp) (op : Operator), bopB o op = true → OpR X (binaryOp op) (rB G.K G.w (evBin o))
  cmp : ∀ {B X} (_ : CkOk G P mg base k B X) (o : COp) (op : CmpOp), copB o op = true → OpR X (compareOp op) (rC2 G.K G.w (evCmp o))
  idx : ∀ {B X} (_ : CkOk G P mg base k B X), IxR X (rB G.K G.w fun x y => (evIdx x y).map fun d => (false, d))
  slc : ∀ {B X} (_ : CkOk G P mg base k B X), SlR X (rS G.K G.w)
  rev : ∀ {B X} (_ : CkOk G P mg base k B X) {W : WX} {a : CE} {e : Expr} {p1 p2 p3 p4 : Pos} {j : Nat}, PE X e (tE G W a) → PE X (.Subscript e (.Slice none none (some (.UnaryOp .USub (.Constant (.int 1) j p1) p2)) p3) p4) (tE G W (.rev a))
  aug : ∀ {B X} (_ : CkOk G P mg base k B X) (o : BOp) (op : Operator), bopB o op = true → PIp X op (rA G.K G.w o)
  blt : ∀ (b : Nat) (x : Str) (ty : Bool) (id : String), bltNm b = some (x, ty, id) → ∃ pr, G.T.blt[b]? = some pr ∧
    (ty = false → bootBuiltins x = some (.builtin id) ∧ ∀ {B X} (_ : CkOk G P mg base k B X), CallR X (.builtin id) (rP G.K G.w pr)) ∧
    (ty = true → bootBuiltins x = some (.type id) ∧ ∀ {B X} (_ : CkOk G P mg base k B X), CallR X (.type id) (rP G.K G.w pr))
  mth : ∀ (m : Nat) (x : Str), mthNm m = some x → ∃ pr, G.T.mth[m]? = some pr ∧ ∀ {B X} (_ : CkOk G P mg base k B X), MthAny X G.K G.w x pr
structure StaOk (tb : Tabs) (G : Lg) (P : Program) (mg : Str → Option Value) (base : Heap) (k : Nat) : Prop where
  con : ∀ (i : Nat) (x : Str), tb.con[i]? = some x → ∃ d v u, G.T.con[i]? = some d ∧ mg x = some u ∧ RelV v u ∧ ∀ H, Rep G.K G.w H d v
  fns : ∀ (f : Nat) (x : Str) (np : Nat), tb.fns[f]? = some (x, np) → ∃ fa fd ps, mg x = some (.ref fa) ∧ PySem.W.keepIn G.K (.ref fa) = true ∧ Binds G.K fd ps [] ∧ FnOk P G.w G.K mg base (L2.CX P G.w) k fa fd ps (spC (G := G) np f)
  exs : ∀ (c : Nat) (x : Str), tb.exs[c]? = some x → ∃ C, mg x = some (.ref C) ∧ G.xt.addr c = some C ∧ G.xt.flds c = [] ∧ PySem.W.keepIn G.K (.ref C) = true ∧ PySem.W.subIn G.K (.ref C) (.type "BaseException") = some true ∧ PySem.W.typeIn G.K (.ref C) = some (.type "type") ∧
    ∃ bmB B newId initId, ExcBaseFacts B newId initId bmB ∧ PySem.W.excIn G.K C bmB newId = true
  sub : ∀ (c j : Nat) (C J : Addr), G.xt.addr c = some C → G.xt.addr j = some J → PySem.W.exmOne G.K (.ref C) (.ref J) = some (G.T.sub c j) ∧ PySem.W.kitOne G.K (.ref C) (.ref J) = some (G.T.sub c j) ∧ ExcC G.K C
  flds : ∀ c, G.xt.flds c = []
  blt : ∀ x ∈ bltAll, mg x = none
  pr : PrimOk G P mg base k

/-! ### the check -/
section
variable (tb : Tabs)
mutual
def okP (B : Blk) : Pat → Expr → Bool
  | .var i, e => match e with
    | .Name x _ => slotB B i x && storB B x
    | _ => false
  | .tup ps, e => match e with
    | .Tuple es _ _ => okPs B ps es && noStarB es
    | _ => false
def okPs (B : Blk) : List Pat → List Expr → Bool
  | [], es => match es with
    | [] => true
    | _ => false
  | p :: ps, es => match es with
    | e :: es => okP B p e && okPs B ps es
    | _ => false
end
/-- a display of constants -/
def okD : CEs → CEs → List (Option Expr) → List Expr → Bool
  | .nil, .nil, [], [] => true
  | .cons (.con k) ks, .cons (.con v) vs, some ke :: kes, ve :: ves => conB k ke && keyD k && conB v ve && okD ks vs kes ves
  | _, _, _, _ => false
mutual
/-- t: as a test -/
def okE (t : Bool) (B : Blk) : CE → Expr → Bool
  | .var i, e => match e with
    | .Name x _ => slotB B i x && visB B.sc x && nm x
    | _ => false
  | .con d, e => conB d e && plainT e
  | .glob k, e => match e with
    | .Name x _ => decide (tb.con[k]? = some x) && glB B.sc x && nm x
    | _ => false
  | .bin o a b, e => match e with
    | .BinOp ea op eb _ => bopB o op && okE false B a ea && okE false B b eb
    | _ => false
  | .neg a, e => match e with
    | .UnaryOp .USub ea _ => okE false B a ea
    | _ => false
  | .not a, e => match e with
    | .UnaryOp .Not ea _ => okE t B a ea
    | _ => false
  | .and a as, e => match e with
    | .BoolOp .And (ea :: es) _ => okE t B a ea && okL t B as es
    | _ => false
  | .or a as, e => match e with
    | .BoolOp .Or (ea :: es) _ => okE t B a ea && okL t B as es
    | _ => false
  | .cmp o a b, e => match e with
    | .Compare ea [op] [eb] _ => copB o op && okE false B a ea && okE false B b eb && notSet eb
    | _ => false
  | .chain o o' a b c, e => match e with
    | .Compare ea [op, op'] [eb, ec] _ => copB o op && copB o' op' && okE false B a ea && okE false B b eb && okE false B c ec && notSet ec
    | _ => false
  | .ite c a b, e => match e with
    | .IfExp ec ea eb _ => !t && okE true B c ec && okE false B a ea && okE false B b eb
    | _ => false
  | .tup as, e => match e with
    | .Tuple es _ _ => okL false B as es && noStarB es && lenLe es 1000
    | _ => false
  | .lst as, e => match e with
    | .List es _ => okL false B as es && noStarB es && lenLe es 1000
    | _ => false
  | .dct ks vs, e => match e with
    | .Dict keys values _ => okD ks vs keys values && !keys.isEmpty && lenLe keys 15
    | _ => false
  | .idx a i, e => match e with
    | .Subscript ea ei _ => okE false B a ea && okE false B i ei && notSlice ei
    | _ => false
  | .slc a lo hi, e => match e with
    | .Subscript ea (.Slice el eh none _) _ => okE false B a ea && okO B lo el && okO B hi eh
    | _ => false
  | .rev a, e => match e with
    | .Subscript ea (.Slice none none (some (.UnaryOp .USub (.Constant (.int 1) _ _) _)) _) _ => okE false B a ea
    | _ => false
  | .call f as, e => match e with
    | .Call (.Name x _) es [] _ => decide (tb.fns[f]? = some (x, as.len)) && glB B.sc x && nm x && okL false B as es && noStarB es
    | _ => false
  | .blt b as, e => match e with
    | .Call (.Name x _) (e1 :: es) [] _ => (match bltNm b with | some (y, _, _) => decide (x = y) | none => false) && decide (x ∈ bltAll) && glB B.sc x && nm x && okL false B as (e1 :: es) && noStarB (e1 :: es)
    | _ => false
  | .mth m o as, e => match e with
    | .Call (.Attribute eo name ap) (e1 :: es) [] cp => decide (mthNm m = some name) && noSuper eo && (ap.endLine == cp.line) && okE false B o eo && okL false B as (e1 :: es) && noStarB (e1 :: es) && lenLe (e1 :: es) 20
    | _ => false
  | .comp vs p it ifs elt, e => match e with
    | .ListComp el [⟨tg, iter, ei, 0⟩] scope _ => okI B it iter && notSet iter && blkC B.N B.sc scope (ownOf B.N vs) && okP (B.inner scope) p tg && okT1 (B.inner scope) ifs ei && okE false (B.inner scope) elt el && (pvars p).all (fun j => decide (j ∈ vs)) && (!paired it || isTupP p)
    | _ => false
  | .comp2 vs p it ifs vs1 p1 it1 ifs1 elt, e => match e with
    | .ListComp el [⟨tg, iter, ei, 0⟩, ⟨tg1, iter1, ei1, 0⟩] scope _ => okI B it iter && notSet iter && blkC B.N B.sc scope (ownOf B.N vs) && okP (B.inner scope) p tg && okT1 (B.inner scope) ifs ei && (pvars p).all (fun j => decide (j ∈ vs)) && (!paired it || isTupP p) &&
        vs1.all (fun j => decide (j ∈ vs)) && okI (B.inner scope) it1 iter1 && notSet iter1 && okP (B.inner scope) p1 tg1 && okT1 (B.inner scope) ifs1 ei1 && okE false (B.inner scope) elt el && (pvars p1).all (fun j => decide (j ∈ vs1)) && (!paired it1 || isTupP p1)
    | _ => false
  | .dcomp _ _ _ _ _ _, _ => false
  | .isi a ty, e => match e with
    | .Call (.Name x _) [ea, .Name y _] [] _ => decide (x = "isinstance") && decide (y = tyN ty) && glB B.sc x && glB B.sc y && okE false B a ea && noStarB [ea]
    | _ => false
def okL (t : Bool) (B : Blk) : CEs → List Expr → Bool
  | .nil, es => match es with
    | [] => true
    | _ => false
  | .cons a as, es => match es with
    | e :: es => okE t B a e && okL t B as es
    | _ => false
def okO (B : Blk) : CEs → Option Expr → Bool
  | .nil, o => match o with
    | none => true
    | _ => false
  | .cons a as, o => match o with
    | some e => okE false B a e
    | _ => false
def okT1 (B : Blk) : CEs → List Expr → Bool
  | .nil, es => match es with
    | [] => true
    | _ => false
  | .cons a as, es => match es with
    | [e] => okE true B a e && (match as with | .nil => true | _ => false)
    | _ => false
def okI (B : Blk) : CI → Expr → Bool
  | .seq a, e => okE false B a e
  | .rng as, e => match e with
    | .Call (.Name x _) es [] _ => decide (x = "range") && glB B.sc x && okL false B as es && noStarB es && (match es with | [_] => true | [_, _] => true | _ => false)
    | _ => false
  | .enum _, _ => false
  | .zip _ _, _ => false
  | .items _, _ => false
end
end

/-! ### it holds -/
section
variable {tb : Tabs} {G : Lg} {P : Program} {mg : Str → Option Value} {base : Heap} {k : Nat}
mutual
theorem okP_ok {B : Blk} {X : Cx} (c : CkOk G P mg base k B X) : ∀ {p : Pat} {e : Expr}, okP B p e = true → PG X e (tG G p)
  | .var i, e, h => by
    unfold okP at h
    split at h
    · simp only [Bool.and_eq_true] at h
      obtain ⟨h1, h2⟩ := h
      have q := stor_ok h2
      rw [← c.sc] at q
      refine g_name (by rw [c.N]; exact c.nd) (by rw [c.N]; exact of_decide_eq_true h1) ?_
      rcases q with q | ⟨q, q'⟩
      · exact .inl q
      · exact .inr ⟨q, c.st _ q'⟩
    · cases h
  | .tup ps, e, h => by
    unfold okP at h
    split at h
    · simp only [Bool.and_eq_true] at h
      obtain ⟨h1, h2⟩ := h
      obtain ⟨q, l⟩ := okPs_ok c h1
      exact g_tup c.K c.calm q l.symm (noStarT_ok h2)
    · cases h
theorem okPs_ok {B : Blk} {X : Cx} (c : CkOk G P mg base k B X) : ∀ {ps : List Pat} {es : List Expr}, okPs B ps es = true → PGs X es (tGs G ps) ∧ ps.length = es.length
  | [], es, h => by
    unfold okPs at h
    split at h
    · exact ⟨gs_nil, rfl⟩
    · cases h
  | p :: ps, es, h => by
    unfold okPs at h
    split at h
    · rename_i e es
      simp only [Bool.and_eq_true] at h
      obtain ⟨q, l⟩ := okPs_ok c h.2
      have hp := okP_ok c h.1
      refine ⟨gs_cons hp q ?_, congrArg (· + 1) l⟩
      have hs : (assignEach (e :: es) X.env) = (false, assign e X.env) :: assignEach es X.env := by
        cases p with
        | var i =>
          have := h.1
          unfold okP at this
          split at this
          · rfl
          · cases this
        | tup ps =>
          have := h.1
          unfold okP at this
          split at this
          · rfl
          · cases this
      rw [hs, List.map_cons]
    · cases h
end
def Judg (G : Lg) (X : Cx) (W : WX) (t : Bool) (e : Expr) (c : CE) : Prop := if t then PT X e (tT G W c) else PE X e (tE G W c)
theorem judg {X : Cx} {W : WX} {t : Bool} {e : Expr} {c : CE} (hK : X.K = G.K) (h : PE X e (tE G W c)) (hp : plainT e = true) : Judg G X W t e c := by
  cases t with
  | false => exact h
  | true => exact t_plain h (plainT_ok hp X.env) hK
end
end Ev

end
section
/-! Ev12: the check holds for expressions. -/
set_option autoImplicit false
set_option linter.all false
set_option Elab.async false
set_option maxRecDepth 100000
set_option maxHeartbeats 4000000
namespace Ev
open PySem PySem.Spec PyProof.Rows L2
section
variable {G : Lg} {X : Cx} {W : WX}
theorem t_chain {o o' : COp} {op op' : CmpOp} {a b c : CE} {ea eb ec : Expr} {pos : Pos} (ho : OpR X (compareOp op) (rC2 G.K G.w (evCmp o))) (ho' : OpR X (compareOp op') (rC2 G.K G.w (evCmp o'))) (ha : PE X ea (tE G W a)) (hb : PE X eb (tE G W b)) (hc : PE X ec (tE G W c))
    (hm : lastMarks [op, op'] [eb, ec] = false) : PT X (.Compare ea [op, op'] [eb, ec] pos) (tT G W (.chain o o' a b c)) := by
  refine (pt_chain ho ho' ha hb hc hm).weak fun σ H Q ⟨Ob, Os, env, S, h⟩ => ?_
  rw [evE, M.bind_assoc] at h
  simp only [M.bind_assoc] at h
  refine two S h fun x y vx vy H' s rx ry hq => ?_
  cases e : evCmp o x.2 y.2 with
  | none => simp only [e] at hq; exact hq.elim
  | some k =>
    simp only [e] at hq
    refine ⟨_, x.2, y.2, k, noT_ite _ (S.noT.same s), rx.repC (u := x.1.isUn || y.1.isUn) S.noT s (fun z => by rw [z]; rfl), ry.repC (u := x.1.isUn || y.1.isUn) S.noT s (fun z => by rw [z]; simp), e, fun H'' s2 => ⟨k, rfl, ?_⟩⟩
    cases k with
    | false => exact ite_ff ⟨false, rfl, hq H'' (s.trans s2)⟩
    | true =>
      simp only [M.bind_assoc] at hq
      refine ite_tt (one (S.same (s.trans s2)) (MPost.imp hq (fun r z => z) fun c p z => XP.same G z (s.trans s2)) fun z vz H3 s3 rz hq3 => ?_)
      cases e3 : evCmp o' y.2 z.2 with
      | none => simp only [e3] at hq3; exact hq3.elim
      | some k3 =>
        simp only [e3] at hq3
        have s23 := s2.trans s3
        exact ⟨_, y.2, z.2, k3, noT_ite _ (S.noT.same (s.trans s23)), (ry.same s23).repC (u := y.1.isUn || z.1.isUn) S.noT (s.trans s23) (fun q => by rw [q]; rfl), (rz.base (s.trans s2)).repC (u := y.1.isUn || z.1.isUn) S.noT (s.trans s23) (fun q => by rw [q]; simp), e3,
          fun H4 s4 => ⟨k3, rfl, hq3 H4 ((s.trans s23).trans s4)⟩⟩
end
/-! ### displays of constants -/
section
variable {G : Lg} {X : Cx} {W : WX}
theorem mergeK_dist : ∀ (more acc : List (Key × V)), (∀ p ∈ more, valV acc p.1 = none) → (more.map (·.1)).Nodup → mergeK acc more = acc ++ more
  | [], acc, _, _ => (List.append_nil acc).symm
  | p :: r, acc, h, nd => by
    show mergeK (putK acc p.1 p.2) r = _
    rw [putK_new _ (h p List.mem_cons_self)]
    rw [List.map_cons, List.nodup_cons] at nd
    rw [mergeK_dist r _ (fun q hq => ?_) nd.2, List.append_assoc]
    · rfl
    · have e1 := h q (List.mem_cons_of_mem _ hq)
      have ne : q.1 ≠ p.1 := fun e => nd.1 (by rw [← e]; exact List.mem_map_of_mem hq)
      have := valV_snoc p.1 q.1 p.2 acc (h p List.mem_cons_self)
      rw [show (p : Key × V) = (p.1, p.2) from rfl, this, if_neg ne, e1]
/-- what the check tells of a display of constants -/
structure DispOk (G : Lg) (X : Cx) (ks vs : CEs) (keys : List (Option Expr)) (values : List Expr) (trs : List (TE × TE)) (dk dv : List D) (L : List (Key × V)) : Prop where
  pps : ∀ pos, PPs X pos keys values trs
  run : ∀ σ H Q, Q (L.map fun kv => (kV kv.1, kv.2)) H → tPairs trs σ H Q
  evk : ∀ env, evEs G.T G.cl env ks = some (.ok (dk.map fun d => (Fl.st, d)))
  evv : ∀ env, evEs G.T G.cl env vs = some (.ok (dv.map fun d => (Fl.st, d)))
  ents : ∀ H, DEnts G.K G.w H dk dv L
  len : keys.length = values.length ∧ keys.length = L.length
  some : keys.all (·.isSome) = true
theorem key_con {kd : D} {e : Expr} {X : Cx} (h : conB kd e = true) (hk : keyD kd = true) : ∃ key, KeyR kd key ∧ PE X e (tC (kV key)) := by
  unfold conB at h
  split at h
  · cases hk
  · cases hk
  · rename_i i j _ _
    cases (beq_iff_eq.mp h)
    exact ⟨_, .int _, pe_int⟩
  · rename_i x y _ _
    cases (of_decide_eq_true h)
    exact ⟨_, .str _, pe_str⟩
  · cases h
theorem disp_ok : ∀ {ks vs : CEs} {keys : List (Option Expr)} {values : List Expr}, okD ks vs keys values = true → ∃ trs dk dv L, DispOk G X ks vs keys values trs dk dv L := by
  intro ks vs keys values h
  match ks, vs, keys, values, h with
  | .nil, .nil, [], [], _ => exact ⟨[], [], [], [], ⟨fun pos => pps_nil, fun σ H Q q => q, fun env => by rw [evEs]; rfl, fun env => by rw [evEs]; rfl, fun H => .nil, ⟨rfl, rfl⟩, rfl⟩⟩
  | .cons (.con kd) ks, .cons (.con vd) vs, some ke :: kes, ve :: ves, h =>
    simp only [okD, Bool.and_eq_true] at h
    obtain ⟨⟨⟨h1, h2⟩, h3⟩, h4⟩ := h
    obtain ⟨trs, dk, dv, L, D⟩ := disp_ok h4
    obtain ⟨key, kr, pk⟩ := key_con (X := X) h1 h2
    obtain ⟨v, rv, pv⟩ := con_ok (G := G) (X := X) h3
    refine ⟨(tC (kV key), tC v) :: trs, kd :: dk, vd :: dv, (key, v) :: L, ⟨fun pos => pps_cons pk pv (D.pps pos), fun σ H Q q => ?_, fun env => ?_, fun env => ?_, fun H => .cons kr (rv H) (D.ents H), ⟨congrArg (· + 1) D.len.1, congrArg (· + 1) D.len.2⟩, ?_⟩⟩
    · exact D.run σ H _ q
    · rw [evEs, evE, D.evk env]; rfl
    · rw [evEs, evE, D.evv env]; rfl
    · rw [List.all_cons, D.some]; rfl
theorem vals_st : ∀ ds : List D, Ev.vals (ds.map fun d => (Fl.st, d)) = ds
  | [] => rfl
  | d :: ds => congrArg (d :: ·) (vals_st ds)
theorem dIn_key {K : Frag} {w : World} {H : Hp} {key : Key} {k : D} (kr : KeyR k key) : ∀ {dk dv : List D} {L : List (Key × V)}, DEnts K w H dk dv L → key ∈ L.map (·.1) → dIn k dk = true
  | _, _, _, .nil, hm => by cases hm
  | _, _, _, .cons (key := key') (k := a) kr' _ t, hm => by
    rw [List.map_cons] at hm
    rw [dIn]
    rcases List.mem_cons.mp hm with e | hm
    · have : dEq a k = true := by
        have e : key = key' := e
        subst e
        cases kr' <;> cases kr <;> simp [dEq]
      rw [this]; rfl
    · rw [dIn_key kr t hm, Bool.or_true]
theorem dist_nodup {K : Frag} {w : World} {H : Hp} : ∀ {dk dv : List D} {L : List (Key × V)}, DEnts K w H dk dv L → distK dk = true → (L.map (·.1)).Nodup
  | _, _, _, .nil, _ => List.nodup_nil
  | _, _, _, .cons (key := key) kr _ t, h => by
    simp only [distK, Bool.and_eq_true, Bool.not_eq_true'] at h
    rw [List.map_cons, List.nodup_cons]
    refine ⟨fun hm => ?_, dist_nodup t h.2⟩
    have e := h.1.2
    rw [dIn_key kr t hm] at e
    cases e
theorem e_dct {ks vs : CEs} {keys : List (Option Expr)} {values : List Expr} {pos : Pos} (h : okD ks vs keys values = true) (h0 : keys.isEmpty = false) (h15 : keys.length ≤ 15) : PE X (.Dict keys values pos) (tE G W (.dct ks vs)) := by
  obtain ⟨trs, dk, dv, L, D⟩ := disp_ok (G := G) (X := X) h
  refine (pe_disp (D.pps pos) D.some D.len.1 (fun z => by rw [z] at h0; cases h0) h15).weak fun σ H Q ⟨Ob, Os, env, S, hq⟩ p hp => ?_
  unfold Fin at hq
  rw [evE, D.evk env, M.bind_ok, D.evv env, M.bind_ok, vals_st, vals_st] at hq
  split at hq
  · rename_i hd
    rw [Bool.and_eq_true] at hd
    refine D.run σ _ _ ⟨upd_same, L, rfl, by rw [← D.len.2]; exact h15, ?_⟩
    have em : mergeK [] L = L := by
      rw [mergeK_dist L [] (fun p _ => rfl) (dist_nodup (D.ents H) hd.1)]
      rfl
    have e2 : upd (upd H p (.dK [])) p (.dK (mergeK [] L)) = upd H p (.dK L) := by
      rw [em]
      funext b
      unfold upd
      split <;> rfl
    rw [e2]
    refine hq _ _ (same_new hp) ⟨p, rfl, hp, .dct upd_same (D.ents _)⟩
  · exact hq.elim
end
section
variable {tb : Tabs} {G : Lg} {P : Program} {mg : Str → Option Value} {base : Heap} {k : Nat}
theorem okL_len {t : Bool} {B : Blk} : ∀ {as : CEs} {es : List Expr}, okL tb t B as es = true → as.len = es.length
  | .nil, es, h => by
    unfold okL at h
    split at h
    · rfl
    · cases h
  | .cons a as, es, h => by
    unfold okL at h
    split at h
    · rw [Bool.and_eq_true] at h
      exact congrArg (· + 1) (okL_len h.2)
    · cases h
theorem all_in {l : List Nat} {vs : List Nat} (h : (l.all fun j => decide (j ∈ vs)) = true) : ∀ j ∈ l, j ∈ vs := fun j hj => of_decide_eq_true (List.all_eq_true.mp h j hj)
theorem pr_ok {it : CI} {p : Pat} (h : (!paired it || isTupP p) = true) : paired it = true → isTupP p = true := fun e => by
  rw [e] at h
  exact h
theorem own_vs {N : List Str} {vs : List Nat} : (ownOf N vs).map (·.2) = vs := by
  unfold ownOf
  rw [List.map_map]
  exact (List.map_congr_left fun _ _ => rfl).trans (List.map_id vs)
mutual
theorem okE_ok (sta : StaOk tb G P mg base k) : ∀ {t : Bool} {B : Blk} {X : Cx} {W : WX} {c : CE} {e : Expr}, CkOk G P mg base k B X → Takes X W → okE tb t B c e = true → Judg G X W t e c
  | t, B, X, W, .var i, e, c, tk, h => by
    unfold okE at h
    split at h
    · simp only [Bool.and_eq_true] at h
      obtain ⟨n1, n2, _⟩ := nm_ok h.2
      exact judg c.K (e_var (by rw [c.N]; exact of_decide_eq_true h.1.1) (by rw [c.sc]; exact vis_ok h.1.2) n1 n2) rfl
    · cases h
  | t, B, X, W, .con d, e, c, tk, h => by
    unfold okE at h
    rw [Bool.and_eq_true] at h
    obtain ⟨v, hr, he⟩ := con_ok (G := G) (X := X) h.1
    exact judg c.K (e_const hr he) h.2
  | t, B, X, W, .glob i, e, c, tk, h => by
    unfold okE at h
    split at h
    · simp only [Bool.and_eq_true] at h
      obtain ⟨n1, n2, _⟩ := nm_ok h.2
      obtain ⟨d, v, u, h1, h2, h3, h4⟩ := sta.con i _ (of_decide_eq_true h.1.1)
      exact judg c.K (e_glob h1 h4 (pe_glob (gl_ok c.sc h.1.2) (by rw [c.mg]; exact h2) h3 n1)) rfl
    · cases h
  | t, B, X, W, .bin o a b, e, c, tk, h => by
    unfold okE at h
    split at h
    · simp only [Bool.and_eq_true] at h
      exact judg c.K (e_bin (sta.pr.bin c o _ h.1.1) (okE_ok sta (t := false) c tk h.1.2) (okE_ok sta (t := false) c tk h.2)) rfl
    · cases h
  | t, B, X, W, .neg a, e, c, tk, h => by
    unfold okE at h
    split at h
    · exact judg c.K (e_neg (okE_ok sta (t := false) c tk h)) rfl
    · cases h
  | t, B, X, W, .not a, e, c, tk, h => by
    unfold okE at h
    split at h
    · cases t with
      | false => exact e_not (okE_ok sta (t := false) c tk h) c.K
      | true => exact t_not (okE_ok sta (t := true) c tk h)
    · cases h
  | t, B, X, W, .and a as, e, c, tk, h => by
    unfold okE at h
    split at h
    · rw [Bool.and_eq_true] at h
      cases t with
      | false => exact e_and (okAnd sta c tk (okE_ok sta (t := false) c tk h.1) h.2)
      | true => exact t_and (okAndT sta c tk (okE_ok sta (t := true) c tk h.1) h.2)
    · cases h
  | t, B, X, W, .or a as, e, c, tk, h => by
    unfold okE at h
    split at h
    · rw [Bool.and_eq_true] at h
      cases t with
      | false => exact e_or (okOr sta c tk (okE_ok sta (t := false) c tk h.1) h.2)
      | true => exact t_or (okOrT sta c tk (okE_ok sta (t := true) c tk h.1) h.2)
    · cases h
  | t, B, X, W, .cmp o a b, e, c, tk, h => by
    unfold okE at h
    split at h
    · simp only [Bool.and_eq_true] at h
      have ho := sta.pr.cmp c o _ h.1.1.1
      have ha := okE_ok sta (t := false) c tk h.1.1.2
      have hb := okE_ok sta (t := false) c tk h.1.2
      cases t with
      | false => exact e_cmp ho ha hb (behind_ok h.2)
      | true => exact t_cmp ho ha hb (behind_ok h.2)
    · cases h
  | t, B, X, W, .chain o o' a b d, e, c, tk, h => by
    unfold okE at h
    split at h
    · simp only [Bool.and_eq_true] at h
      obtain ⟨⟨⟨⟨⟨h1, h2⟩, h3⟩, h4⟩, h5⟩, h6⟩ := h
      have ho := sta.pr.cmp c o _ h1
      have ho' := sta.pr.cmp c o' _ h2
      have ha := okE_ok sta (t := false) c tk h3
      have hb := okE_ok sta (t := false) c tk h4
      have hc := okE_ok sta (t := false) c tk h5
      cases t with
      | false => exact e_chain ho ho' ha hb hc (behind_ok h6)
      | true => exact t_chain ho ho' ha hb hc (behind_ok h6)
    · cases h
  | t, B, X, W, .ite a b d, e, c, tk, h => by
    unfold okE at h
    split at h
    · simp only [Bool.and_eq_true] at h
      obtain ⟨⟨⟨h1, h2⟩, h3⟩, h4⟩ := h
      cases t with
      | false => exact e_ite (okE_ok sta (t := true) c tk h2) (okE_ok sta (t := false) c tk h3) (okE_ok sta (t := false) c tk h4)
      | true => cases h1
    · cases h
  | t, B, X, W, .tup as, e, c, tk, h => by
    unfold okE at h
    split at h
    · simp only [Bool.and_eq_true] at h
      exact judg c.K (e_tup (Ev.PA.plain (okA sta c tk h.1.1 h.1.2)) (by rw [okL_len h.1.1]; exact lenLe_le h.2)) rfl
    · cases h
  | t, B, X, W, .lst as, e, c, tk, h => by
    unfold okE at h
    split at h
    · simp only [Bool.and_eq_true] at h
      exact judg c.K (e_lst (Ev.PA.plain (okA sta c tk h.1.1 h.1.2)) (by rw [okL_len h.1.1]; exact lenLe_le h.2)) rfl
    · cases h
  | t, B, X, W, .dct ks vs, e, c, tk, h => by
    unfold okE at h
    split at h
    · simp only [Bool.and_eq_true, Bool.not_eq_true'] at h
      exact judg c.K (e_dct h.1.1 h.1.2 (lenLe_le h.2)) rfl
    · cases h
  | t, B, X, W, .idx a i, e, c, tk, h => by
    unfold okE at h
    split at h
    · simp only [Bool.and_eq_true] at h
      exact judg c.K (e_idx (sta.pr.idx c) (okE_ok sta (t := false) c tk h.1.1) (okE_ok sta (t := false) c tk h.1.2) (plainIx_ok h.2)) rfl
    · cases h
  | t, B, X, W, .slc a lo hi, e, c, tk, h => by
    unfold okE at h
    split at h
    · simp only [Bool.and_eq_true] at h
      exact judg c.K (e_slc (sta.pr.slc c) (okE_ok sta (t := false) c tk h.1.1) (okO_ok sta c tk h.1.2) (okO_ok sta c tk h.2)) rfl
    · cases h
  | t, B, X, W, .rev a, e, c, tk, h => by
    unfold okE at h
    split at h
    · exact judg c.K (sta.pr.rev c (okE_ok sta (t := false) c tk h)) rfl
    · cases h
  | t, B, X, W, .call f as, e, c, tk, h => by
    unfold okE at h
    split at h
    · rename_i x pn es pos
      simp only [Bool.and_eq_true] at h
      obtain ⟨⟨⟨⟨h1, h2⟩, h3⟩, h4⟩, h5⟩ := h
      obtain ⟨fa, fd, ps, q1, q2, q3, q4⟩ := sta.fns f _ _ (of_decide_eq_true h1)
      obtain ⟨n1, _, _⟩ := nm_ok h3
      have F : FnOk X.prog X.w X.K X.mg X.base (L2.CX X.prog X.w) k fa fd ps (spC (G := G) as.len f) := by rw [c.P, c.w, c.K, c.mg, c.base]; exact q4
      cases es with
      | nil =>
        cases as with
        | nil => exact judg c.K (e_call0 F c.room (gl_ok c.sc h2) (by rw [c.mg]; exact q1) (by rw [c.K]; exact q2) (by rw [c.K]; exact q3) tk n1) rfl
        | cons a as => simp [okL] at h4
      | cons e es =>
        have h5' : noStarB es = true := by
          unfold noStarB at h5 ⊢
          rw [List.all_cons, Bool.and_eq_true] at h5
          exact h5.2
        exact judg c.K (e_call F c.room (gl_ok c.sc h2) (by rw [c.mg]; exact q1) (by rw [c.K]; exact q2) (by rw [c.K]; exact q3) tk (Ev.PA.plain (okA sta c tk h4 h5)) n1 (noStar_ok h5) (noStar_ok h5') rfl) rfl
    · cases h
  | t, B, X, W, .blt b as, e, c, tk, h => by
    unfold okE at h
    split at h
    · rename_i x pn e1 es pos
      simp only [Bool.and_eq_true] at h
      obtain ⟨⟨⟨⟨⟨h1, h2⟩, h3⟩, h4⟩, h5⟩, h6⟩ := h
      have h6' : noStarB es = true := by
        unfold noStarB at h6 ⊢
        rw [List.all_cons, Bool.and_eq_true] at h6
        exact h6.2
      obtain ⟨n1, _, n3⟩ := nm_ok h4
      cases eb : bltNm b with
      | none => rw [eb] at h1; cases h1
      | some q =>
        obtain ⟨y, ty, id⟩ := q
        rw [eb] at h1
        have ex : x = y := of_decide_eq_true h1
        subst ex
        obtain ⟨pr, q1, q2, q3⟩ := sta.pr.blt b x ty id eb
        have hmn : X.mg x = none := by rw [c.mg]; exact sta.blt x (of_decide_eq_true h2)
        have hA := (Ev.PA.plain (okA sta c tk h5 h6))
        cases ty with
        | false =>
          obtain ⟨hv, hc⟩ := q2 rfl
          exact judg c.K (e_blt q1 (hc c) (gl_ok c.sc h3) hmn hv hA n3 n1 (noStar_ok h6) (noStar_ok h6')) rfl
        | true =>
          obtain ⟨hv, hc⟩ := q3 rfl
          exact judg c.K (e_bltTy q1 (hc c) (gl_ok c.sc h3) hmn hv hA n3 n1 (noStar_ok h6) (noStar_ok h6')) rfl
    · cases h
  | t, B, X, W, .mth m o as, e, c, tk, h => by
    unfold okE at h
    split at h
    · rename_i eo name ap e1 es cp
      simp only [Bool.and_eq_true] at h
      obtain ⟨⟨⟨⟨⟨⟨h1, h2⟩, h3⟩, h4⟩, h5⟩, h6⟩, h7⟩ := h
      have h6' : noStarB es = true := by
        unfold noStarB at h6 ⊢
        rw [List.all_cons, Bool.and_eq_true] at h6
        exact h6.2
      obtain ⟨pr, q1, q2⟩ := sta.pr.mth m name (of_decide_eq_true h1)
      have := lenLe_le h7
      exact judg c.K (e_mth c.K q1 (q2 c) (okE_ok sta (t := false) c tk h4) (Ev.PA.plain (okA sta c tk h5 h6)) (noSuper_ok h2) h3 (noStar_ok h6) (noStar_ok h6') (by omega)) rfl
    · cases h
  | t, B, X, W, .comp vs p it ifs elt, e, c, tk, h => by
    unfold okE at h
    split at h
    · simp only [Bool.and_eq_true] at h
      obtain ⟨⟨⟨⟨⟨⟨⟨h1, h2⟩, h3⟩, h4⟩, h5⟩, h6⟩, h7⟩, h8⟩ := h
      exact judg c.K (e_comp c.calm (by rw [c.N]; exact c.nd) (okI_ok sta c tk h1) (by rw [c.N, c.sc]; exact blkOk_by h3) own_vs
        (fun s H C cl fp => okP_ok (c.inner _ s H C cl fp) h4) (fun s H C cl fp => okT1_ok sta (c.inner _ s H C cl fp) takes0 h5) (fun s H C cl fp => okE_ok sta (t := false) (c.inner _ s H C cl fp) takes0 h6) (fold_ok h2) (all_in h7) (pr_ok h8)) rfl
    · cases h
  | t, B, X, W, .comp2 vs p it ifs vs1 p1 it1 ifs1 elt, e, c, tk, h => by
    unfold okE at h
    split at h
    · simp only [Bool.and_eq_true] at h
      obtain ⟨⟨⟨⟨⟨⟨⟨⟨⟨⟨⟨⟨⟨⟨h1, h2⟩, h3⟩, h4⟩, h5⟩, h6⟩, h7⟩, h8⟩, h9⟩, h10⟩, h11⟩, h12⟩, h13⟩, h14⟩, h15⟩ := h
      exact judg c.K (e_comp2 c.calm (by rw [c.N]; exact c.nd) (okI_ok sta c tk h1) (by rw [c.N, c.sc]; exact blkOk_by h3) own_vs (all_in h8)
        (fun s H C cl fp => okP_ok (c.inner _ s H C cl fp) h4) (fun s H C cl fp => okT1_ok sta (c.inner _ s H C cl fp) takes0 h5)
        (fun s H C cl fp => okI_ok sta (c.inner _ s H C cl fp) takes0 h9)
        (fun s H C cl fp => okP_ok (c.inner _ s H C cl fp) h11) (fun s H C cl fp => okT1_ok sta (c.inner _ s H C cl fp) takes0 h12) (fun s H C cl fp => okE_ok sta (t := false) (c.inner _ s H C cl fp) takes0 h13) (fold_ok h2) (fun env => fold_ok h10) (all_in h6) (all_in h14) (pr_ok h7) (pr_ok h15)) rfl
    · cases h
  | t, B, X, W, .dcomp _ _ _ _ _ _, e, c, tk, h => by
    unfold okE at h
    cases h
  | t, B, X, W, .isi a ty, e, c, tk, h => by
    unfold okE at h
    split at h
    · simp only [Bool.and_eq_true] at h
      obtain ⟨⟨⟨⟨⟨h1, h2⟩, h3⟩, h4⟩, h5⟩, h6⟩ := h
      have e1 := of_decide_eq_true h1
      have e2 := of_decide_eq_true h2
      subst e1
      subst e2
      refine judg c.K (e_isi c.K (okE_ok sta (t := false) c tk h5) (gl_ok c.sc h3) (by rw [c.mg]; exact sta.blt _ (by decide)) (gl_ok c.sc h4) (by rw [c.mg]; exact sta.blt _ (by cases ty <;> decide)) ?_) rfl
      refine noStar_ok ?_
      unfold noStarB at h6 ⊢
      simpa using h6
    · cases h
  termination_by structural t B X W c => c
theorem okA (sta : StaOk tb G P mg base k) : ∀ {B : Blk} {X : Cx} {W : WX} {as : CEs} {es : List Expr}, CkOk G P mg base k B X → Takes X W → okL tb false B as es = true → noStarB es = true → PA X es (tAF G W as)
  | B, X, W, .nil, es, c, tk, h, hs => by
    unfold okL at h
    split at h
    · exact aF_nil
    · cases h
  | B, X, W, .cons a as, es, c, tk, h, hs => by
    unfold okL at h
    split at h
    · rename_i e es
      rw [Bool.and_eq_true] at h
      have hs' : noStarB es = true := by
        unfold noStarB at hs ⊢
        rw [List.all_cons, Bool.and_eq_true] at hs
        exact hs.2
      exact aF_cons (okE_ok sta (t := false) c tk h.1) (okA sta c tk h.2 hs') ((noStar_ok hs).head (noStar_ok hs'))
    · cases h
  termination_by structural B X W as => as
theorem okAnd (sta : StaOk tb G P mg base k) : ∀ {B : Blk} {X : Cx} {W : WX} {a : CE} {as : CEs} {e : Expr} {es : List Expr} {pos : Pos}, CkOk G P mg base k B X → Takes X W → PE X e (tE G W a) → okL tb false B as es = true → PE X (.BoolOp .And (e :: es) pos) (tAndL (G := G) W (.cons a as))
  | B, X, W, a, .nil, e, es, pos, c, tk, h, hl => by
    unfold okL at hl
    split at hl
    · exact e_and1 h
    · cases hl
  | B, X, W, a, .cons b bs, e, es, pos, c, tk, h, hl => by
    unfold okL at hl
    split at hl
    · rw [Bool.and_eq_true] at hl
      exact e_andc c.K h (okAnd sta c tk (okE_ok sta (t := false) c tk hl.1) hl.2) ⟨b, bs, rfl⟩
    · cases hl
  termination_by structural B X W a as => as
theorem okOr (sta : StaOk tb G P mg base k) : ∀ {B : Blk} {X : Cx} {W : WX} {a : CE} {as : CEs} {e : Expr} {es : List Expr} {pos : Pos}, CkOk G P mg base k B X → Takes X W → PE X e (tE G W a) → okL tb false B as es = true → PE X (.BoolOp .Or (e :: es) pos) (tOrL (G := G) W (.cons a as))
  | B, X, W, a, .nil, e, es, pos, c, tk, h, hl => by
    unfold okL at hl
    split at hl
    · exact e_or1 h
    · cases hl
  | B, X, W, a, .cons b bs, e, es, pos, c, tk, h, hl => by
    unfold okL at hl
    split at hl
    · rw [Bool.and_eq_true] at hl
      exact e_orc c.K h (okOr sta c tk (okE_ok sta (t := false) c tk hl.1) hl.2) ⟨b, bs, rfl⟩
    · cases hl
  termination_by structural B X W a as => as
theorem okAndT (sta : StaOk tb G P mg base k) : ∀ {B : Blk} {X : Cx} {W : WX} {a : CE} {as : CEs} {e : Expr} {es : List Expr} {pos : Pos}, CkOk G P mg base k B X → Takes X W → PT X e (tT G W a) → okL tb true B as es = true → PW X (.BoolOp .And (e :: es) pos) (tAndT' (G := G) W (.cons a as))
  | B, X, W, a, .nil, e, es, pos, c, tk, h, hl => by
    unfold okL at hl
    split at hl
    · exact t_and1 h
    · cases hl
  | B, X, W, a, .cons b bs, e, es, pos, c, tk, h, hl => by
    unfold okL at hl
    split at hl
    · rw [Bool.and_eq_true] at hl
      exact t_andc h (okAndT sta c tk (okE_ok sta (t := true) c tk hl.1) hl.2) ⟨b, bs, rfl⟩
    · cases hl
  termination_by structural B X W a as => as
theorem okOrT (sta : StaOk tb G P mg base k) : ∀ {B : Blk} {X : Cx} {W : WX} {a : CE} {as : CEs} {e : Expr} {es : List Expr} {pos : Pos}, CkOk G P mg base k B X → Takes X W → PT X e (tT G W a) → okL tb true B as es = true → PW X (.BoolOp .Or (e :: es) pos) (tOrT' (G := G) W (.cons a as))
  | B, X, W, a, .nil, e, es, pos, c, tk, h, hl => by
    unfold okL at hl
    split at hl
    · exact t_or1 h
    · cases hl
  | B, X, W, a, .cons b bs, e, es, pos, c, tk, h, hl => by
    unfold okL at hl
    split at hl
    · rw [Bool.and_eq_true] at hl
      exact t_orc h (okOrT sta c tk (okE_ok sta (t := true) c tk hl.1) hl.2) ⟨b, bs, rfl⟩
    · cases hl
  termination_by structural B X W a as => as
theorem okO_ok (sta : StaOk tb G P mg base k) : ∀ {B : Blk} {X : Cx} {W : WX} {as : CEs} {o : Option Expr}, CkOk G P mg base k B X → Takes X W → okO tb B as o = true → PO X o (tO (G := G) W as)
  | B, X, W, .nil, o, c, tk, h => by
    unfold okO at h
    split at h
    · exact o_none
    · cases h
  | B, X, W, .cons a as, o, c, tk, h => by
    unfold okO at h
    split at h
    · exact o_some (okE_ok sta (t := false) c tk h)
    · cases h
  termination_by structural B X W as => as
theorem okT1_ok (sta : StaOk tb G P mg base k) : ∀ {B : Blk} {X : Cx} {W : WX} {as : CEs} {es : List Expr}, CkOk G P mg base k B X → Takes X W → okT1 tb B as es = true → PTs X es (tTs G W as)
  | B, X, W, .nil, es, c, tk, h => by
    unfold okT1 at h
    split at h
    · exact ts_nil
    · cases h
  | B, X, W, .cons a as, es, c, tk, h => by
    unfold okT1 at h
    split at h
    · rw [Bool.and_eq_true] at h
      cases as with
      | nil => exact ts_one (okE_ok sta (t := true) c tk h.1)
      | cons _ _ => exact nomatch h.2
    · cases h
  termination_by structural B X W as => as
theorem okI_ok (sta : StaOk tb G P mg base k) : ∀ {B : Blk} {X : Cx} {W : WX} {tg : Expr} {ci : CI} {e : Expr}, CkOk G P mg base k B X → Takes X W → okI tb B ci e = true → PI X tg e (tI G W ci)
  | B, X, W, tg, .seq a, e, c, tk, h => by
    unfold okI at h
    refine i_seq c.K ?_
    by_cases hv : isVar a = true
    · cases a with
      | var i =>
        unfold okE at h
        split at h
        · simp only [Bool.and_eq_true] at h
          obtain ⟨n1, n2, _⟩ := nm_ok h.2
          exact e_srcV (by rw [c.N]; exact of_decide_eq_true h.1.1) (by rw [c.sc]; exact vis_ok h.1.2) n1 n2
        · cases h
      | _ => cases hv
    · exact e_src (okE_ok sta (t := false) c tk h) (by cases q : isVar a with
        | true => exact absurd q hv
        | false => rfl)
  | B, X, W, tg, .rng as, e, c, tk, h => by
    unfold okI at h
    split at h
    · simp only [Bool.and_eq_true] at h
      obtain ⟨⟨⟨⟨h1, h2⟩, h3⟩, h4⟩, h5⟩ := h
      have e1 := of_decide_eq_true h1
      subst e1
      have hm : X.mg "range" = none := by rw [c.mg]; exact sta.blt _ (by decide)
      have hl := okL_len h3
      have hA := (Ev.PA.plain (okA sta c tk h3 h4))
      split at h5
      · cases as with
        | nil => cases hl
        | cons a as =>
          cases as with
          | nil => exact i_rng1 (gl_ok c.sc h2) hm hA (noStar_ok h4)
          | cons b as => cases hl
      · cases as with
        | nil => cases hl
        | cons a as =>
          cases as with
          | nil => cases hl
          | cons b as =>
            cases as with
            | nil =>
              have h4' := h4
              unfold noStarB at h4'
              rw [List.all_cons, Bool.and_eq_true] at h4'
              exact i_rng2 (gl_ok c.sc h2) hm hA (noStar_ok h4) (noStar_ok h4'.2)
            | cons d as => cases hl
      · cases h5
    · cases h
  | B, X, W, tg, .enum _, e, c, tk, h => by
    unfold okI at h
    cases h
  | B, X, W, tg, .zip _ _, e, c, tk, h => by
    unfold okI at h
    cases h
  | B, X, W, tg, .items _, e, c, tk, h => by
    unfold okI at h
    cases h
  termination_by structural B X W tg ci => ci
end
end
end Ev

end
section
/-! Ev13: the primitives. -/
set_option autoImplicit false
set_option linter.all false
set_option Elab.async false
set_option maxRecDepth 100000
set_option maxHeartbeats 4000000
namespace Ev
open PySem PySem.Spec PyProof.Rows L2
section
variable {K : Frag} {w : World} {O : List Addr} {H H' : Hp} {x : V} {d : D}
theorem RepC.non (h : RepC K w O H .non x) : x = .non := by cases h.rep; rfl
theorem RepC.bl {b : Bool} (h : RepC K w O H (.bl b) x) : x = .bl b := by cases h.rep; rfl
theorem RepC.int {i : Int} (h : RepC K w O H (.int i) x) : x = .int i := by cases h.rep; rfl
theorem RepC.str {z : List Nat} (h : RepC K w O H (.str z) x) : x = .str (sv z) := by cases h.rep; rfl
theorem RepC.lst {ds : List D} (h : RepC K w O H (.lst ds) x) : ∃ a vs, x = .ref a ∧ H a = some (.lst vs) ∧ Reps K w (Hm H O) ds vs := by
  rcases h with h | ⟨b, rfl, c⟩
  · cases h with
    | lst h1 h2 => exact ⟨_, _, rfl, Hm_same _ _ h1, h2⟩
  · cases c with
    | lst h1 h2 => exact ⟨_, _, rfl, h1, h2⟩
theorem RepC.set {ds : List D} (h : RepC K w O H (.set ds) x) : ∃ a vs, x = .ref a ∧ SqL K H a vs ∧ Reps K w (Hm H O) ds vs := by
  rcases h with h | ⟨b, rfl, c⟩
  · cases h with
    | set h1 h2 => exact ⟨_, _, rfl, Same.seq Hm_same h1, h2⟩
  · cases c
theorem RepC.tup {ds : List D} (h : RepC K w O H (.tup ds) x) : ∃ a vs, x = .ref a ∧ TupAt K (Hm H O) a vs ∧ Reps K w (Hm H O) ds vs := by
  rcases h with h | ⟨b, rfl, c⟩
  · cases h with
    | tup h1 h2 => exact ⟨_, _, rfl, h1, h2⟩
  · cases c
theorem RepC.dct {ks vs : List D} (h : RepC K w O H (.dct ks vs) x) : ∃ a L, x = .ref a ∧ H a = some (.dK L) ∧ DEnts K w (Hm H O) ks vs L := by
  rcases h with h | ⟨b, rfl, c⟩
  · cases h with
    | dct h1 h2 => exact ⟨_, _, rfl, Hm_same _ _ h1, h2⟩
  · cases c with
    | dct h1 h2 => exact ⟨_, _, rfl, h1, h2⟩
theorem tq {a : Addr} {vs : List V} (h : TupAt K (Hm H O) a vs) : SqT K H a vs := sqT_same Hm_same h.sq
/-- what comes out -/
theorem out_int {H0 : Hp} (i : Int) : Out K w O H0 H false (.int i) (.int i) := Rep.int i
theorem out_str {H0 : Hp} (z : List Nat) : Out K w O H0 H false (.str z) (.str (sv z)) := Rep.str z
theorem out_bl {H0 : Hp} (b : Bool) : Out K w O H0 H false (.bl b) (.bl b) := Rep.bl b
theorem out_tup {H0 : Hp} {p : Addr} {ds : List D} {vs : List V} {us : List Value} (n : NoT H O) (hp : H p = none) (h : Reps K w (Hm H O) ds vs) : Out K w O H0 (upd H p (.frz (tobj us) (.tup vs))) false (.tup ds) (.ref p) := new_tup (H0 := H0) n hp h
theorem out_lst {p : Addr} {ds : List D} {vs : List V} (n : NoT H O) (hp : H p = none) (h : Reps K w (Hm H O) ds vs) : Out K w O H (upd H p (.lst vs)) true (.lst ds) (.ref p) := new_lst n hp h

/-! ### == -/
mutual
def toP : D → PyData
  | .non => .none | .bl b => .bool b | .int i => .int i | .str x => .str (sv x)
  | .tup ds => .tuple (toPs ds)
  | .lst ds => .list (toPs ds)
  | .dct _ _ => .none | .set _ => .none
def toPs : List D → List PyData
  | [] => []
  | d :: ds => toP d :: toPs ds
end
mutual
theorem rep_dp : ∀ {n : Nat} {d : D} {x : V}, cmpN n d = true → Rep K w H d x → Dp K H x (toP d)
  | _, _, _, _, .non => .non
  | _, _, _, _, .bl b => .bl b
  | _, _, _, _, .int i => .int i
  | _, _, _, _, .str z => .str _
  | n, _, _, e, .tup h hs => by
    cases n with
    | zero => simp [cmpN] at e
    | succ m => exact .tup h.sq (reps_dp (n := m) (by simpa [cmpN] using e) hs)
  | n, _, _, e, .lst h hs => by
    cases n with
    | zero => simp [cmpN] at e
    | succ m => exact .lst (SqL.of h) (reps_dp (n := m) (by simpa [cmpN] using e) hs)
  | _, _, _, e, .set h hs => by simp [cmpN] at e
  | _, _, _, e, .dct h hs => by simp [cmpN] at e
theorem reps_dp : ∀ {n : Nat} {ds : List D} {xs : List V}, cmpNs n ds = true → Reps K w H ds xs → DpAll K H xs (toPs ds)
  | _, _, _, _, .nil => .nil
  | n, _, _, e, .cons h t => by
    simp only [cmpNs, Bool.and_eq_true] at e
    exact .cons (rep_dp (n := n) e.1 h) (reps_dp (n := n) e.2 t)
end
mutual
theorem toP_ok : ∀ {n : Nat} {d : D}, cmpN n d = true → (toP d).canLay0 = true ∧ (toP d).depth ≤ n
  | _, .non, _ => ⟨rfl, Nat.zero_le _⟩
  | _, .bl b, _ => ⟨rfl, Nat.zero_le _⟩
  | _, .int i, _ => ⟨rfl, Nat.zero_le _⟩
  | _, .str z, e => by
    refine ⟨?_, Nat.zero_le _⟩
    simp only [cmpN, List.all_eq_true] at e
    show (sv z).cps.all (· < 0x110000) = true
    rw [Array.all_eq_true']
    intro c hc
    have := e c (by simpa using hc)
    simpa [Nat.blt_eq] using this
  | n, .tup ds, e => by
    cases n with
    | zero => simp [cmpN] at e
    | succ m =>
      obtain ⟨h1, h2⟩ := toPs_ok (n := m) (by simpa [cmpN] using e)
      exact ⟨by simpa [toP, PyData.canLay0] using h1, by simp only [toP, PyData.depth]; omega⟩
  | n, .lst ds, e => by
    cases n with
    | zero => simp [cmpN] at e
    | succ m =>
      obtain ⟨h1, h2⟩ := toPs_ok (n := m) (by simpa [cmpN] using e)
      exact ⟨by simpa [toP, PyData.canLay0] using h1, by simp only [toP, PyData.depth]; omega⟩
  | _, .dct _ _, e => by simp [cmpN] at e
  | _, .set _, e => by simp [cmpN] at e
theorem toPs_ok : ∀ {n : Nat} {ds : List D}, cmpNs n ds = true → PyData.canLayAll0 (toPs ds) = true ∧ PyData.depthAll (toPs ds) ≤ n
  | _, [], _ => ⟨rfl, Nat.zero_le _⟩
  | n, d :: ds, e => by
    simp only [cmpNs, Bool.and_eq_true] at e
    obtain ⟨h1, h2⟩ := toP_ok e.1
    obtain ⟨h3, h4⟩ := toPs_ok e.2
    exact ⟨by simp [toPs, PyData.canLayAll0, h1, h3], by simp only [toPs, PyData.depthAll]; omega⟩
end
theorem shaped_ok {d : D} (h : cmpOk d = true) : SeqAt.shaped (toP d) = true := by
  obtain ⟨h1, h2⟩ := toP_ok h
  show (PyData.canLay0 (toP d) && decide ((toP d).depth ≤ 64)) = true
  rw [h1, Bool.true_and]
  exact decide_eq_true (by omega)
theorem shapeds_ok {ds : List D} (h : cmpOks ds = true) : SeqAt.shaped (.list (toPs ds)) = true := by
  obtain ⟨h1, h2⟩ := toPs_ok h
  show (PyData.canLay0 (.list (toPs ds)) && decide ((PyData.list (toPs ds)).depth ≤ 64)) = true
  have : (PyData.list (toPs ds)).depth ≤ 64 := by simp only [PyData.depth]; omega
  rw [show PyData.canLay0 (.list (toPs ds)) = true from by simpa [PyData.canLay0] using h1, Bool.true_and]
  exact decide_eq_true this
theorem sv_beq (a b : List Nat) : (sv a == sv b) = (a == b) := by
  rw [Bool.eq_iff_iff, beq_iff_eq, beq_iff_eq]
  constructor
  · intro e
    have e1 : a.toArray = b.toArray := congrArg Str.cps e
    simpa using congrArg Array.toList e1
  · intro e
    rw [e]
mutual
theorem eqv_eq : ∀ {n m : Nat} {a b : D}, cmpN n a = true → cmpN m b = true → PyData.eqv (toP a) (toP b) = dEq a b
  | n, m, .non, b, h1, h2 => by cases b <;> first | rfl | (simp [cmpN] at h2; done) | simp [toP, PyData.eqv, dEq]
  | n, m, .bl x, b, h1, h2 => by cases b <;> first | rfl | (simp [cmpN] at h2; done) | simp [toP, PyData.eqv, dEq, b2i]
  | n, m, .int x, b, h1, h2 => by cases b <;> first | rfl | (simp [cmpN] at h2; done) | simp [toP, PyData.eqv, dEq, b2i]
  | n, m, .str x, b, h1, h2 => by
    cases b <;> first
      | (simp [cmpN] at h2; done)
      | (simp only [toP, PyData.eqv, dEq]; exact sv_beq _ _)
      | simp [toP, PyData.eqv, dEq]
  | n, m, .tup xs, b, h1, h2 => by
    cases b with
    | tup ys =>
      cases n with
      | zero => simp [cmpN] at h1
      | succ n =>
        cases m with
        | zero => simp [cmpN] at h2
        | succ m =>
          simp only [toP, PyData.eqv, dEq]
          exact eqvs_eq (n := n) (m := m) (by simpa [cmpN] using h1) (by simpa [cmpN] using h2)
    | dct _ _ => simp [cmpN] at h2
    | set _ => simp [cmpN] at h2
    | _ => simp [toP, PyData.eqv, dEq]
  | n, m, .lst xs, b, h1, h2 => by
    cases b with
    | lst ys =>
      cases n with
      | zero => simp [cmpN] at h1
      | succ n =>
        cases m with
        | zero => simp [cmpN] at h2
        | succ m =>
          simp only [toP, PyData.eqv, dEq]
          exact eqvs_eq (n := n) (m := m) (by simpa [cmpN] using h1) (by simpa [cmpN] using h2)
    | dct _ _ => simp [cmpN] at h2
    | set _ => simp [cmpN] at h2
    | _ => simp [toP, PyData.eqv, dEq]
  | n, m, .dct _ _, b, h1, h2 => by simp [cmpN] at h1
  | n, m, .set _, b, h1, h2 => by simp [cmpN] at h1
theorem eqvs_eq : ∀ {n m : Nat} {xs ys : List D}, cmpNs n xs = true → cmpNs m ys = true → PyData.eqvAll (toPs xs) (toPs ys) = dEqs xs ys
  | _, _, [], [], _, _ => rfl
  | _, _, [], _ :: _, _, _ => rfl
  | _, _, _ :: _, [], _, _ => rfl
  | n, m, x :: xs, y :: ys, h1, h2 => by
    simp only [cmpNs, Bool.and_eq_true] at h1 h2
    simp only [toPs, PyData.eqvAll, dEqs, eqv_eq h1.1 h2.1, eqvs_eq h1.2 h2.2]
end
theorem any_eq {x : D} (hx : cmpOk x = true) : ∀ {ds : List D}, cmpOks ds = true → ((toPs ds).any fun z => PyData.eqv z (toP x)) = dIn x ds
  | [], _ => rfl
  | d :: ds, h => by
    have h : cmpNs 50 (d :: ds) = true := h
    simp only [cmpNs, Bool.and_eq_true] at h
    simp only [toPs, List.any_cons, dIn]
    rw [any_eq hx (ds := ds) h.2, eqv_eq h.1 hx]
theorem flat_cmp {d : D} (h : flatD d = true) : True := trivial
theorem flat_v {d : D} {x : V} (h : flatD d = true) (r : Rep K w H d x) : flatV x = true := by
  cases r <;> first | rfl | cases h
theorem flats_v : ∀ {ds : List D} {xs : List V}, flatDs ds = true → Reps K w H ds xs → xs.all flatV = true
  | _, _, _, .nil => rfl
  | _, _, h, .cons r t => by
    simp only [flatDs, Bool.and_eq_true] at h
    rw [List.all_cons, flat_v h.1 r, flats_v h.2 t]
    rfl
theorem eqV_eq {a b : D} {x y : V} (h1 : flatD a = true) (h2 : flatD b = true) (r1 : Rep K w H a x) (r2 : Rep K w H b y) : eqV x y = dEq a b := by
  cases r1 <;> (try (cases h1; done)) <;> cases r2 <;> (try (cases h2; done)) <;> (first | rfl | (simp only [eqV, dEq]; exact sv_beq _ _) | simp [eqV, dEq, b2i])
theorem inV_eq {a : D} {x : V} (h1 : flatD a = true) (r1 : Rep K w H a x) : ∀ {ds : List D} {xs : List V}, flatDs ds = true → Reps K w H ds xs → inV x xs = dIn a ds
  | _, _, _, .nil => rfl
  | _, _, h, .cons r t => by
    simp only [flatDs, Bool.and_eq_true] at h
    have ih := inV_eq h1 r1 h.2 t
    unfold inV at ih ⊢
    simp only [List.any_cons, dIn]
    rw [ih, eqV_eq h.1 h1 r r1]
end

section
variable {G : Lg} {P : Program} {mg : Str → Option Value} {base : Heap} {k : Nat} {B : Blk} {X : Cx}
theorem decide_and {p q : Prop} [Decidable p] [Decidable q] (h : (decide p && decide q) = true) : p ∧ q := by simpa using h
theorem p_bin (c : CkOk G P mg base k B X) (o : BOp) (op : Operator) (ho : bopB o op = true) : OpR X (binaryOp op) (rB G.K G.w (evBin o)) := by
  intro pins s σ H x y v u Q I rx ry h
  obtain ⟨O, d1, d2, fr, d, n, c1, c2, e, q⟩ := h
  have hK := c.K
  unfold evBin at e
  split at e
  · -- int + int
    cases e
    cases op <;> first | cases ho | skip
    exact op_add pins s σ H x y v u Q I rx ry ⟨_, _, c1.int, c2.int, q _ H (Same.refl H) (out_int _)⟩
  · cases e
    cases op <;> first | cases ho | skip
    exact op_sub pins s σ H x y v u Q I rx ry ⟨_, _, c1.int, c2.int, q _ H (Same.refl H) (out_int _)⟩
  · split at e
    · rename_i hs
      cases e
      cases op <;> first | cases ho | skip
      refine op_mul pins s σ H x y v u Q I rx ry ⟨_, _, c1.int, c2.int, ?_, q _ H (Same.refl H) (out_int _)⟩
      rw [Bool.or_eq_true] at hs
      exact hs.imp (fun z => decide_and z) (fun z => decide_and z)
    · cases e
  · split at e
    · rename_i hs
      cases e
      cases op <;> first | cases ho | skip
      rw [Bool.and_eq_true] at hs
      exact op_fdivN pins s σ H x y v u Q I rx ry ⟨_, _, c1.int, c2.int, ⟨by simpa using hs.1, by simpa using hs.2⟩, q _ H (Same.refl H) (out_int _)⟩
    · cases e
  · split at e
    · rename_i hs
      cases e
      cases op <;> first | cases ho | skip
      exact op_modN pins s σ H x y v u Q I rx ry ⟨_, _, c1.int, c2.int, by simpa using hs, q _ H (Same.refl H) (out_int _)⟩
    · cases e
  · split at e
    · rename_i hs
      cases e
      cases op <;> first | cases ho | skip
      simp only [Bool.and_eq_true, decide_eq_true_eq] at hs
      exact op_pow pins s σ H x y v u Q I rx ry ⟨_, _, c1.int, c2.int, ⟨hs.1.1, hs.1.2, hs.2⟩, q _ H (Same.refl H) (out_int _)⟩
    · cases e
  · -- texts
    split at e
    · rename_i a b hs
      cases e
      cases op <;> first | cases ho | skip
      have hl := lenLe_size hs
      have e2 : sv a ++ sv b = sv (a ++ b) := by
        show Str.mk (a.toArray ++ b.toArray) = Str.mk (a ++ b).toArray
        simp
      refine op_add_str pins s σ H x y v u Q I rx ry ⟨_, _, c1.str, c2.str, by rw [sv_length, sv_length, ← List.length_append]; exact hl, ?_⟩
      rw [e2]
      exact q _ H (Same.refl H) (out_str _)
    · cases e
  · -- tuples
    split at e
    · rename_i ds1 ds2 hs
      cases e
      cases op <;> first | cases ho | skip
      obtain ⟨a, xs, rfl, ha, ra⟩ := c1.tup
      obtain ⟨b, ys, rfl, hb, rb⟩ := c2.tup
      have hl := lenLe_size hs
      have l1 := ra.length
      have l2 := rb.length
      rw [List.length_append] at hl
      obtain ⟨its, r1, p1, _⟩ := I.tuple (by rw [hK]; exact tq ha)
      obtain ⟨its2, r2, p2, _⟩ := I.tuple (by rw [hK]; exact tq hb)
      cases rx
      cases ry
      by_cases hx : xs = []
      · subst hx
        cases ra
        cases r1
        exact L2.cat_tup0 p1 p2 ⟨.ref b, H, I, rfl, q _ H (Same.refl H) (Rep.tup hb rb)⟩
      · refine HT.cat_tup p1 p2 (fun z => hx (r1.nil_iff.mp z)) (fun z => ?_) (fun z => ?_) (by rw [← r1.length, ← r2.length]; omega)
        · have hy := r2.nil_iff.mp z
          subst hy
          cases rb
          refine ⟨.ref a, H, I, rfl, q _ H (Same.refl H) ?_⟩
          rw [List.append_nil]
          exact Rep.tup ha ra
        · exact ⟨.ref s.heap.objs.size, _, tup_new (t' := s.toks) I (r1.append r2) (by rw [List.length_append]; omega), rfl, q _ _ (same_new (I.hok.fresh (Nat.le_refl _))) (out_tup n (I.hok.fresh (Nat.le_refl _)) (ra.append rb))⟩
    · cases e
  · -- lists
    split at e
    · rename_i ds1 ds2 hs
      cases e
      cases op <;> first | cases ho | skip
      obtain ⟨a, xs, rfl, ha, ra⟩ := c1.lst
      obtain ⟨b, ys, rfl, hb, rb⟩ := c2.lst
      have hl := lenLe_size hs
      have l1 := ra.length
      have l2 := rb.length
      rw [List.length_append] at hl
      exact op_cat pins s σ H _ _ v u Q I rx ry ⟨a, b, xs, ys, rfl, rfl, ha, hb, by omega, fun p hp => q _ _ (same_new hp) (out_lst n hp (ra.append rb))⟩
    · cases e
  · split at e
    · rename_i ds1 kk hs
      cases e
      cases op <;> first | cases ho | skip
      obtain ⟨a, xs, rfl, ha, ra⟩ := c1.lst
      simp only [Bool.and_eq_true, decide_eq_true_eq] at hs
      have l1 := ra.length
      exact op_rep pins s σ H _ _ v u Q I rx ry ⟨a, _, xs, rfl, c2.int, ha, hs.1.1, hs.1.2, by rw [← l1, ← line_eq]; exact hs.2, fun p hp => q _ _ (same_new hp) (out_lst n hp (ra.rep _))⟩
    · cases e
  · cases e
end
end Ev

end
section
/-! Ev14: the primitives, on. -/
set_option autoImplicit false
set_option linter.all false
set_option Elab.async false
set_option maxRecDepth 100000
set_option maxHeartbeats 4000000
namespace Ev
open PySem PySem.Spec PyProof.Rows L2
section
variable {K : Frag} {w : World} {O : List Addr} {H H' : Hp} {x : V} {d : D}
/-! ### dicts by their keys -/
theorem keyR_eq {a b : D} {ka kb : Key} (h1 : KeyR a ka) (h2 : KeyR b kb) : dEq a b = decide (ka = kb) := by
  cases h1 with
  | int i =>
    cases h2 with
    | int j =>
      rw [Bool.eq_iff_iff]
      simp [dEq]
    | str y => simp [dEq]
  | str x =>
    cases h2 with
    | int j => simp [dEq]
    | str y =>
      simp only [dEq]
      rw [← sv_beq, Bool.eq_iff_iff]
      simp
theorem keyD_r {k : D} (h : keyD k = true) (r : Rep K w H k x) : ∃ key, KeyR k key ∧ x = kV key := by
  cases r <;> first
    | (cases h; done)
    | exact ⟨_, .int _, rfl⟩
    | exact ⟨_, .str _, rfl⟩
theorem look_in {k : D} {key : Key} (hk : KeyR k key) : ∀ {ks vs : List D} {L : List (Key × V)}, DEnts K w H ks vs L → dIn k ks = (valV L key).isSome
  | _, _, _, .nil => rfl
  | _, _, _, .cons (key := k') (k := a) kr _ t => by
    rw [dIn, keyR_eq kr hk]
    by_cases e : k' = key
    · rw [valV_pos e, decide_eq_true e]; rfl
    · rw [valV_neg e, decide_eq_false e, look_in hk t]; rfl
theorem look_val {k : D} {key : Key} (hk : KeyR k key) : ∀ {ks vs : List D} {L : List (Key × V)} {d : D}, DEnts K w H ks vs L → look k ks vs = some d → ∃ v, valV L key = some v ∧ Rep K w H d v
  | _, _, _, _, .nil, h => by cases h
  | _, _, _, _, .cons (key := k') (x := xv) kr r t, h => by
    rw [look, keyR_eq kr hk] at h
    by_cases e : k' = key
    · rw [decide_eq_true e, if_pos rfl] at h
      cases h
      exact ⟨xv, valV_pos e, r⟩
    · rw [decide_eq_false e, if_neg (by simp)] at h
      rw [valV_neg e]
      exact look_val hk t h
theorem DEnts.len {ks vs : List D} {L : List (Key × V)} (h : DEnts K w H ks vs L) : ks.length = L.length := by
  induction ks generalizing vs L with
  | nil => cases h; rfl
  | cons k ks ih =>
    cases h with
    | cons _ _ t => exact congrArg (· + 1) (ih t)
end
section
variable {G : Lg} {P : Program} {mg : Str → Option Value} {base : Heap} {k : Nat} {B : Blk} {X : Cx}
theorem hu65 (c : CkOk G P mg base k B X) : X.A.units + 65 < cLine := by have := c.room.un; omega
theorem isin_seq (c : CkOk G P mg base k B X) {O : List Addr} {H : Hp} {d1 : D} {ds : List D} {x y : V} {Q : VK} (c1 : RepC G.K G.w O H d1 x) (c2 : RepC G.K G.w O H (.lst ds) y) (h1 : cmpOk d1 = true) (h2 : cmpOks ds = true) (q : Q (.bl (dIn d1 ds)) H) : rInD X.K x y H Q := by
  obtain ⟨a, vs, rfl, ha, ra⟩ := c2.lst
  refine ⟨toP d1, toPs ds, ?_, ?_, shaped_ok h1, shapeds_ok h2, by rw [any_eq h1 h2]; exact q⟩
  · rw [c.K]; exact rep_dp h1 c1.rep
  · rw [c.K]; exact .lst (SqL.of ha) (reps_dp h2 (ra.same Hm_same))
theorem isnt_seq (c : CkOk G P mg base k B X) {O : List Addr} {H : Hp} {d1 : D} {ds : List D} {x y : V} {Q : VK} (c1 : RepC G.K G.w O H d1 x) (c2 : RepC G.K G.w O H (.lst ds) y) (h1 : cmpOk d1 = true) (h2 : cmpOks ds = true) (q : Q (.bl (!dIn d1 ds)) H) : rNotInD X.K x y H Q := by
  obtain ⟨a, vs, rfl, ha, ra⟩ := c2.lst
  refine ⟨toP d1, toPs ds, ?_, ?_, shaped_ok h1, shapeds_ok h2, by rw [any_eq h1 h2]; exact q⟩
  · rw [c.K]; exact rep_dp h1 c1.rep
  · rw [c.K]; exact .lst (SqL.of ha) (reps_dp h2 (ra.same Hm_same))
def isNonD : D → Bool
  | .non => true
  | _ => false
theorem isnone {K : Frag} {w : World} {H : Hp} {d : D} {x : V} (r : Rep K w H d x) : decide (x = .non) = isNonD d := by cases r <;> simp [isNonD]
theorem contains_dec (c : Nat) (z : List Nat) : decide (c ∈ z) = z.contains c := by
  rw [Bool.eq_iff_iff]
  simp
theorem p_cmp (c : CkOk G P mg base k B X) (o : COp) (op : CmpOp) (ho : copB o op = true) : OpR X (compareOp op) (rC2 G.K G.w (evCmp o)) := by
  intro pins s σ H x y v u Q I rx ry h
  obtain ⟨O, d1, d2, cc, n, c1, c2, e, q⟩ := h
  have q := q H (Same.refl H)
  have hK := c.K
  cases o with
  | eq =>
    cases op <;> first | cases ho | skip
    simp only [evCmp] at e
    split at e
    · rename_i hs
      cases e
      rw [Bool.and_eq_true] at hs
      refine op_eqD (by have := hu65 c; omega) pins s σ H x y v u Q I rx ry ⟨toP d1, toP d2, ?_, ?_, shaped_ok hs.1, shaped_ok hs.2, by rw [eqv_eq hs.1 hs.2]; exact q⟩
      · rw [hK]; exact rep_dp hs.1 c1.rep
      · rw [hK]; exact rep_dp hs.2 c2.rep
    · cases e
  | ne =>
    cases op <;> first | cases ho | skip
    simp only [evCmp] at e
    split at e
    · rename_i hs
      cases e
      rw [Bool.and_eq_true] at hs
      refine op_neD (by have := hu65 c; omega) pins s σ H x y v u Q I rx ry ⟨toP d1, toP d2, ?_, ?_, shaped_ok hs.1, shaped_ok hs.2, by rw [eqv_eq hs.1 hs.2]; exact q⟩
      · rw [hK]; exact rep_dp hs.1 c1.rep
      · rw [hK]; exact rep_dp hs.2 c2.rep
    · cases e
  | lt =>
    cases op <;> first | cases ho | skip
    simp only [evCmp] at e
    split at e
    · cases e
      exact op_lt pins s σ H x y v u Q I rx ry ⟨_, _, c1.int, c2.int, q⟩
    · cases e
  | le =>
    cases op <;> first | cases ho | skip
    simp only [evCmp] at e
    split at e
    · cases e
      exact op_le pins s σ H x y v u Q I rx ry ⟨_, _, c1.int, c2.int, q⟩
    · cases e
  | gt =>
    cases op <;> first | cases ho | skip
    simp only [evCmp] at e
    split at e
    · cases e
      exact op_gt pins s σ H x y v u Q I rx ry ⟨_, _, c1.int, c2.int, q⟩
    · cases e
  | ge =>
    cases op <;> first | cases ho | skip
    simp only [evCmp] at e
    split at e
    · cases e
      exact op_ge pins s σ H x y v u Q I rx ry ⟨_, _, c1.int, c2.int, q⟩
    · cases e
  | is =>
    cases op <;> first | cases ho | skip
    simp only [evCmp] at e
    split at e
    · cases e
      exact op_isN pins s σ H x y v u Q I rx ry ⟨c2.non, by rw [isnone c1.rep]; cases d1 <;> exact q⟩
    · cases e
  | isNot =>
    cases op <;> first | cases ho | skip
    simp only [evCmp] at e
    split at e
    · cases e
      refine op_notN pins s σ H x y v u Q I rx ry ⟨c2.non, ?_⟩
      rw [isnone c1.rep]
      cases d1 <;> exact q
    · cases e
  | isin =>
    cases op <;> first | cases ho | skip
    simp only [evCmp] at e
    split at e
    · rename_i cp z
      cases e
      refine op_in_str pins s σ H x y v u Q I rx ry ⟨_, _, c1.str, c2.str, ?_⟩
      have := PySem.StrLaws.found_one (sv z) cp
      rw [show (sv [cp] : Str) = ⟨#[cp]⟩ from rfl, this]
      rw [show (sv z).cps.toList = z from by simp, contains_dec]
      exact q
    · split at e
      · rename_i hs
        cases e
        rw [Bool.and_eq_true] at hs
        exact op_inD (hu65 c) pins s σ H x y v u Q I rx ry (isin_seq c c1 c2 hs.1 hs.2 q)
      · cases e
    · split at e
      · rename_i hs
        cases e
        rw [Bool.and_eq_true] at hs
        obtain ⟨a, vs, rfl, ha, ra⟩ := c2.tup
        refine op_in_seq pins s σ H x _ v u Q I rx ry ⟨a, vs, rfl, .inr (by rw [hK]; exact tq ha), flat_v hs.1 c1.rep, flats_v hs.2 ra, ?_⟩
        rw [if_neg (by simp), inV_eq hs.1 c1.rep hs.2 (ra.same Hm_same)]
        exact q
      · cases e
    · split at e
      · rename_i hs
        cases e
        obtain ⟨a, L, rfl, ha, ra⟩ := c2.dct
        obtain ⟨key, kr, rfl⟩ := keyD_r hs c1.rep
        cases ry
        refine d_in (by have := hu65 c; omega) I (DGet.k ha) rx fun s' I' => ⟨.bl _, H, I', rfl, ?_⟩
        rw [← look_in kr ra]
        exact q
      · cases e
    · cases e
  | notin =>
    cases op <;> first | cases ho | skip
    simp only [evCmp] at e
    split at e
    · rename_i cp z
      cases e
      refine op_notin_str pins s σ H x y v u Q I rx ry ⟨_, _, c1.str, c2.str, ?_⟩
      have := PySem.StrLaws.found_one (sv z) cp
      rw [show (sv [cp] : Str) = ⟨#[cp]⟩ from rfl, this]
      rw [show (sv z).cps.toList = z from by simp, contains_dec]
      exact q
    · split at e
      · rename_i hs
        cases e
        rw [Bool.and_eq_true] at hs
        exact op_notInD (hu65 c) pins s σ H x y v u Q I rx ry (isnt_seq c c1 c2 hs.1 hs.2 q)
      · cases e
    · split at e
      · rename_i hs
        cases e
        rw [Bool.and_eq_true] at hs
        obtain ⟨a, vs, rfl, ha, ra⟩ := c2.tup
        refine op_notIn_seq pins s σ H x _ v u Q I rx ry ⟨a, vs, rfl, .inr (by rw [hK]; exact tq ha), flat_v hs.1 c1.rep, flats_v hs.2 ra, ?_⟩
        rw [if_pos rfl, inV_eq hs.1 c1.rep hs.2 (ra.same Hm_same)]
        exact q
      · cases e
    · split at e
      · rename_i hs
        cases e
        obtain ⟨a, L, rfl, ha, ra⟩ := c2.dct
        obtain ⟨key, kr, rfl⟩ := keyD_r hs c1.rep
        cases ry
        refine d_notIn (by have := hu65 c; omega) I (DGet.k ha) rx fun s' I' => ⟨.bl _, H, I', rfl, ?_⟩
        rw [← look_in kr ra]
        exact q
      · cases e
    · cases e

/-! ### places -/
theorem atI_rep {K : Frag} {w : World} {H : Hp} {ds : List D} {vs : List V} {i : Int} {d : D} (r : Reps K w H ds vs) (h : atD ds i = some d) : ∃ v, atI vs i = some v ∧ Rep K w H d v := by
  unfold atD at h
  unfold atI
  rw [show ixN = ixAt from rfl, ← r.length]
  cases e : ixAt ds.length i with
  | none => rw [e] at h; cases h
  | some j =>
    rw [e] at h
    obtain ⟨v, h1, h2⟩ := r.get (show ds[j]? = some d from h)
    exact ⟨v, h1, h2⟩
theorem p_idx (c : CkOk G P mg base k B X) : IxR X (rB G.K G.w fun x y => (evIdx x y).map fun d => (false, d)) := by
  intro value slice pins s σ H x y v u Q I rx ry h hs
  obtain ⟨O, d1, d2, fr, d, n, c1, c2, e, q⟩ := h
  have hK := c.K
  obtain ⟨d', e1, e2⟩ := Option.map_eq_some_iff.mp e
  cases e2
  unfold evIdx at e1
  split at e1
  · obtain ⟨a, vs, rfl, ha, ra⟩ := c1.lst
    obtain ⟨w', h1, h2⟩ := atI_rep ra e1
    exact ix_list value slice pins s σ H _ y v u Q I rx ry ⟨a, vs, _, w', rfl, c2.int, SqL.of ha, h1, q _ H (Same.refl H) h2⟩ hs
  · obtain ⟨a, vs, rfl, ha, ra⟩ := c1.tup
    obtain ⟨w', h1, h2⟩ := atI_rep ra e1
    exact ix_tup value slice pins s σ H _ y v u Q I rx ry ⟨a, vs, _, w', rfl, c2.int, by rw [hK]; exact tq ha, h1, q _ H (Same.refl H) h2⟩ hs
  · rename_i z i
    split at e1
    · cases e1
    · rename_i hl
      have hl : lenLe z line = true := by simpa using hl
      obtain ⟨cp, h1, h2⟩ := Option.map_eq_some_iff.mp e1
      cases h2
      refine ix_str value slice pins s σ H x y v u Q I rx ry ⟨_, i, cp, c1.str, c2.int, by rw [sv_length]; exact lenLe_size hl, ?_, q _ H (Same.refl H) (out_str [cp])⟩ hs
      rw [show (sv z).cps.toList = z from by simp]
      exact h1
  · split at e1
    · rename_i hs2
      obtain ⟨a, L, rfl, ha, ra⟩ := c1.dct
      obtain ⟨key, kr, rfl⟩ := keyD_r hs2 c2.rep
      obtain ⟨w', h1, h2⟩ := look_val kr ra e1
      cases rx
      have g : DGet H a (kV key) (some w') := by rw [← h1]; exact DGet.k ha
      exact tail_any (dict_typeIs I g) PySem.F.slot_dict_getitem.lookup (d_getItem (by have := hu65 c; omega) I g ry fun w2 s' I' r' => ⟨w', H, I', r', q _ H (Same.refl H) h2⟩) hs
    · cases e1
  · cases e1
theorem clip_eq (n d : Nat) (o : Option Int) : clip n d o = HT.sIx n d o := by cases o <;> rfl
theorem cut_rep {K : Frag} {w : World} {H : Hp} {ds : List D} {vs : List V} (lo hi : Option Int) (r : Reps K w H ds vs) : Reps K w H (cutL ds lo hi) (cutV vs lo hi) := by
  unfold cutL cutV
  rw [clip_eq, clip_eq, r.length]
  exact (r.drop _).take _
theorem p_slc (c : CkOk G P mg base k B X) : SlR X (rS G.K G.w) := by
  intro pins s σ H x v vl vu lo hi sl Q I rx hs pl pu h
  obtain ⟨O, d0, fr, d, n, c1, e, q⟩ := h
  have hK := c.K
  unfold evSlc at e
  split at e
  · cases e
    obtain ⟨a, vs, rfl, ha, ra⟩ := c1.lst
    exact sl_list pins s σ H _ v vl vu lo hi sl Q I rx hs pl pu ⟨a, vs, rfl, SqL.of ha, fun p hp => q _ _ (same_new hp) (out_lst n hp (cut_rep lo hi ra))⟩
  · cases e
    obtain ⟨a, vs, rfl, ha, ra⟩ := c1.set
    exact sl_list pins s σ H _ v vl vu lo hi sl Q I rx hs pl pu ⟨a, vs, rfl, by rw [hK]; exact ha, fun p hp => q _ _ (same_new hp) (out_lst n hp (cut_rep lo hi ra))⟩
  · rename_i ds
    cases e
    obtain ⟨a, xs, rfl, ha, ra⟩ := c1.tup
    cases rx
    obtain ⟨its, r, ht, hz⟩ := I.tuple (by rw [hK]; exact tq ha)
    have hlen : its.toArray.size = xs.length := by rw [List.size_toArray]; exact r.length.symm
    refine ⟨"tuple", _, PyProof.Rows.slot_tuple_getitem.lookup, ht.typeIs, ?_⟩
    by_cases hw : HT.sIx xs.length 0 lo = 0 ∧ HT.sIx xs.length xs.length hi = xs.length
    · refine L2.getItem_tuple_whole ht hs pl pu (by rw [hlen]; exact hw) ⟨.ref a, H, I, rfl, q _ H (Same.refl H) ?_⟩
      have e2 : cutL ds lo hi = ds := by
        unfold cutL
        rw [clip_eq, clip_eq, ra.length, hw.1, hw.2, ← ra.length]
        simp
      rw [e2]
      exact Rep.tup ha ra
    · refine HT.getItem_tuple_cut ht hs pl pu (by rw [hlen]; exact hw) ?_ (by rw [hlen]; exact hz)
      rw [hlen]
      exact ⟨.ref s.heap.objs.size, _, tup_new (t' := s.toks) I (xs := cutV xs lo hi) ((r.drop (HT.sIx xs.length 0 lo)).take (HT.sIx xs.length xs.length hi - HT.sIx xs.length 0 lo)) (Nat.le_trans (cutV_length xs lo hi) hz), rfl,
        q _ _ (same_new (I.hok.fresh (Nat.le_refl _))) (out_tup n (I.hok.fresh (Nat.le_refl _)) (cut_rep lo hi ra))⟩
  · rename_i z
    split at e
    · rename_i hl
      cases e
      refine L2.sl_str pins s σ H _ v vl vu lo hi sl Q I rx hs pl pu ⟨_, c1.str, by rw [sv_length]; exact lenLe_size hl, ?_⟩
      have e2 : cutS (sv z) lo hi = sv (cutL z lo hi) := by
        unfold cutS cutL
        rw [clip_eq, clip_eq, sv_length, show (sv z).cps.toList = z from by simp]
      rw [e2]
      exact q _ H (Same.refl H) (out_str _)
    · cases e
  · cases e
/-- xs[::-1] -/
theorem p_rev (c : CkOk G P mg base k B X) {W : WX} {a : CE} {e : Expr} {p1 p2 p3 p4 : Pos} {j : Nat} (he : PE X e (tE G W a)) : PE X (.Subscript e (.Slice none none (some (.UnaryOp .USub (.Constant (.int 1) j p1) p2)) p3) p4) (tE G W (.rev a)) := by
  have hm1 : PE X (.UnaryOp .USub (.Constant (.int 1) j p1) p2) (fun σ H Q => Q (.int (-1)) H) := (pe_un un_neg pe_int).weak fun σ H Q h => ⟨1, rfl, h⟩
  have hK := c.K
  refine ⟨fun pins s σ H Q I h => ?_⟩
  obtain ⟨Ob, Os, env, S, h⟩ := h
  unfold Fin at h
  rw [evE] at h
  have h1 := one (R := fun x H1 => ∃ a ds vs, x = .ref a ∧ H1 a = some (.lst vs) ∧ vs.length ≤ vs.length ∧ ∀ p, H1 p = none → Q (.ref p) (upd H1 p (.lst vs.reverse))) S h fun x vx H1 s1 rx hq => by
    obtain ⟨f, d⟩ := x
    cases d with
    | lst ds =>
      have hq : ∀ v H', Same H H' → FlR G.K G.w Ob Os H H' (.lst ds.reverse) v (outFl f.isUn true (.lst ds.reverse)) → Q v H' := hq
      obtain ⟨a, vs, rfl, ha, ra⟩ := (rx.repC (u := f.isUn) S.noT s1 fun z => z).lst
      refine ⟨a, ds, vs, rfl, ha, Nat.le_refl _, fun p hp => hq _ _ (s1.trans (same_new hp)) ?_⟩
      exact (Out.fl (S.noT.same s1) (same_new hp) (out_lst (noT_ite f.isUn (S.noT.same s1)) hp ra.reverse)).base s1
    | _ => exact hq.elim
  refine Subscript_ (thn (he.run pins s σ H _ I h1) fun v s1 ⟨x, H1, I1, r1, q1⟩ => ?_)
  obtain ⟨a, ds, vs, rfl, ha, _, q1⟩ := q1
  cases r1
  refine wpAny_Slice ?_
  rw [evalPart_none, evalPart_some]
  refine wpAny_pure (wpAny_pure (thn (hm1.run pins s1 σ H1 (fun z H2 => z = .int (-1) ∧ H2 = H1) I1 ⟨rfl, rfl⟩) fun st s2 hz => ?_))
  obtain ⟨z, H2, I2, rz, e1, e2⟩ := hz
  subst e1
  rw [e2] at I2
  obtain ⟨t, rfl⟩ := rz
  have I4 : Inv X pins σ H1 { s2 with heap := s2.heap.push { cls := .type "slice", data := .fields #[.none, .none, .int (-1) t] } } := I2.kept (t' := s2.toks) fun b ob q => Heap.get?_push_of_some _ q
  obtain ⟨its, r, ht, hz⟩ := I4.list (SqL.of ha)
  have hlen := r.length
  show wpAny (model X.prog X.w) X.A (subscriptTail e (.Slice none none (some (.UnaryOp .USub (.Constant (.int 1) j p1) p2)) p3) (.ref a) (.ref s2.heap.objs.size)) (EP X pins σ Q) X.xe { s2 with heap := s2.heap.push { cls := .type "slice", data := .fields #[.none, .none, .int (-1) t] } }
  refine tail_any (ops := [.ref a, .ref s2.heap.objs.size]) ht.isList.typeIs slot_list_getitem.lookup (wpAny_getItem_list_slice ht.isList (Heap.IsSliceOf.new ..) .none .none (IsPart.int _ _) (by decide) ?_ (by rw [List.size_toArray] <;> omega)) (by with_unfolding_all rfl)
  rw [PySem.W.krv_pick]
  exact ⟨.ref _, _, I4.lnew (t' := s2.toks) (its := its.reverse) r.reverse (by rw [List.length_reverse]; omega), rfl, q1 _ (I4.hok.fresh (Nat.le_refl _))⟩
end
end Ev

end
section
/-! Ev15: the primitives, all. -/
set_option autoImplicit false
set_option linter.all false
set_option Elab.async false
set_option maxRecDepth 100000
set_option maxHeartbeats 4000000
namespace Ev
open PySem PySem.Spec PyProof.Rows L2
section
variable {G : Lg} {P : Program} {mg : Str → Option Value} {base : Heap} {k : Nat} {B : Blk} {X : Cx}
theorem p_aug (c : CkOk G P mg base k B X) (o : BOp) (op : Operator) (ho : bopB o op = true) : PIp X op (rA G.K G.w o) := by
  intro pins s σ H x y v u Q I rx ry h
  obtain ⟨O, d1, d2, fr, d, n, c1, c2, e, q⟩ := h
  unfold evAug at e
  split at e
  · cases e
    cases op <;> first | cases ho | skip
    exact iop_add pins s σ H x y v u Q I rx ry ⟨_, _, c1.int, c2.int, q _ H (Same.refl H) (out_int _)⟩
  · cases e
    cases op <;> first | cases ho | skip
    exact iop_sub pins s σ H x y v u Q I rx ry ⟨_, _, c1.int, c2.int, q _ H (Same.refl H) (out_int _)⟩
  · split at e
    · rename_i hs
      cases e
      cases op <;> first | cases ho | skip
      refine iop_mul pins s σ H x y v u Q I rx ry ⟨_, _, c1.int, c2.int, ?_, q _ H (Same.refl H) (out_int _)⟩
      rw [Bool.or_eq_true] at hs
      exact hs.imp (fun z => decide_and z) (fun z => decide_and z)
    · cases e
  · split at e
    · rename_i hs
      cases e
      cases op <;> first | cases ho | skip
      exact iop_fdiv pins s σ H x y v u Q I rx ry ⟨_, _, c1.int, c2.int, decide_and hs, q _ H (Same.refl H) (out_int _)⟩
    · cases e
  · split at e
    · rename_i hs
      cases e
      cases op <;> first | cases ho | skip
      exact iop_mod pins s σ H x y v u Q I rx ry ⟨_, _, c1.int, c2.int, of_decide_eq_true hs, q _ H (Same.refl H) (out_int _)⟩
    · cases e
  · split at e
    · rename_i a b hs
      cases e
      cases op <;> first | cases ho | skip
      have hl := lenLe_size hs
      have e2 : sv a ++ sv b = sv (a ++ b) := by
        show Str.mk (a.toArray ++ b.toArray) = Str.mk (a ++ b).toArray
        simp
      refine iop_add_str pins s σ H x y v u Q I rx ry ⟨_, _, c1.str, c2.str, by rw [sv_length, sv_length, ← List.length_append]; exact hl, ?_⟩
      rw [e2]
      exact q _ H (Same.refl H) (out_str _)
    · cases e
  · cases e

/-! ### builtins -/
theorem reps1 {K : Frag} {w : World} {O : List Addr} {H : Hp} {d : D} {xs : List V} (h : RepCs K w O H [d] xs) : ∃ x, xs = [x] ∧ RepC K w O H d x := by
  cases h with
  | cons r t => cases t; exact ⟨_, rfl, r⟩
theorem reps2 {K : Frag} {w : World} {O : List Addr} {H : Hp} {d e : D} {xs : List V} (h : RepCs K w O H [d, e] xs) : ∃ x y, xs = [x, y] ∧ RepC K w O H d x ∧ RepC K w O H e y := by
  cases h with
  | cons r t => cases t with
    | cons r2 t => cases t; exact ⟨_, _, rfl, r, r2⟩
theorem b_len (c : CkOk G P mg base k B X) : CallR X (.builtin "len") (rP G.K G.w pLen) := by
  intro pins s σ H xs us Q I r h
  obtain ⟨O, ds, fr, d, n, cs, e, q⟩ := h
  have hK := c.K
  unfold pLen at e
  split at e
  · rename_i x0
    obtain ⟨x, rfl, c1⟩ := reps1 cs
    obtain ⟨m, e1, e2⟩ := Option.map_eq_some_iff.mp e
    cases e2
    unfold lenD at e1
    split at e1
    · cases e1
      obtain ⟨a, vs, rfl, ha, ra⟩ := c1.lst
      exact call_len pins s σ H _ us Q I r ⟨_, vs.length, rfl, .inl ⟨vs, SqL.of ha, rfl⟩, by rw [← ra.length]; exact q _ H (Same.refl H) (out_int _)⟩
    · cases e1
      obtain ⟨a, vs, rfl, ha, ra⟩ := c1.tup
      exact call_len pins s σ H _ us Q I r ⟨_, vs.length, rfl, .inr ⟨vs, by rw [hK]; exact tq ha, rfl⟩, by rw [← ra.length]; exact q _ H (Same.refl H) (out_int _)⟩
    · split at e1
      · rename_i z hl
        cases e1
        have ex := c1.str
        subst ex
        refine call_len pins s σ H _ us Q I r ⟨_, z.length, rfl, ⟨?_, (sv_length z).symm⟩, q _ H (Same.refl H) (out_int _)⟩
        rw [sv_length]; exact lenLe_size hl
      · cases e1
    · cases e1
      obtain ⟨a, L, rfl, ha, ra⟩ := c1.dct
      exact call_lenD pins s σ H _ us Q I r ⟨a, L, rfl, ha, by rw [← ra.len]; exact q _ H (Same.refl H) (out_int _)⟩
    · cases e1
      obtain ⟨a, vs, rfl, ha, ra⟩ := c1.set
      exact call_len pins s σ H _ us Q I r ⟨_, vs.length, rfl, .inl ⟨vs, by rw [hK]; exact ha, rfl⟩, by rw [← ra.length]; exact q _ H (Same.refl H) (out_int _)⟩
    · cases e1
  · cases e
theorem b_tuple (c : CkOk G P mg base k B X) : CallR X (.type "tuple") (rP G.K G.w pTuple) := by
  intro pins s σ H xs us Q I r h
  obtain ⟨O, ds, fr, d, n, cs, e, q⟩ := h
  have hK := c.K
  unfold pTuple at e
  split at e
  · cases e
    obtain ⟨x, rfl, c1⟩ := reps1 cs
    obtain ⟨a, vs, rfl, ha, ra⟩ := c1.lst
    obtain ⟨u, rfl, rx⟩ := vals1 r
    cases rx
    obtain ⟨its, r', pl, hz⟩ := I.list (SqL.of ha)
    have hlen := r'.length
    refine call_tuple_list pl.isList (fun h' kp => ?_) (by simp only [List.size_toArray] <;> omega)
    have I1 : Inv X pins σ H { s with heap := h' } := I.kept (t' := s.toks) kp
    exact ⟨.ref h'.objs.size, _, tup_new (t' := s.toks) I1 r' hz, rfl, q _ _ (same_new (I1.hok.fresh (Nat.le_refl _))) (out_tup n (I1.hok.fresh (Nat.le_refl _)) ra)⟩
  · cases e
    obtain ⟨x, rfl, c1⟩ := reps1 cs
    obtain ⟨a, vs, rfl, ha, ra⟩ := c1.tup
    exact call_tupleT pins s σ H _ us Q I r ⟨a, vs, rfl, by rw [hK]; exact tq ha, q _ H (Same.refl H) (Rep.tup ha ra)⟩
  · cases e
theorem reps_strs {K : Frag} {w : World} {H : Hp} : ∀ z : List Nat, Reps K w H (z.map fun c => D.str [c]) (z.map fun c => V.str ⟨#[c]⟩)
  | [] => .nil
  | c :: z => .cons (.str [c]) (reps_strs z)
theorem vals_strs {z : List Nat} {acc : Array Value} (h : ItemsOf (SignAt (sv z)) acc (sv z).cps.size) : Vals (z.map fun c => V.str ⟨#[c]⟩) acc.toList := by
  have hl : acc.toList.length = z.length := by rw [Array.length_toList, h.1]; simp
  have : ∀ (n : Nat), Vals ((z.drop n).map fun c => V.str ⟨#[c]⟩) (acc.toList.drop n) := by
    intro n
    generalize hm : z.length - n = m
    induction m generalizing n with
    | zero =>
      rw [List.drop_of_length_le (by omega), List.drop_of_length_le (by omega)]
      exact .nil
    | succ m ih =>
      have h1 : n < z.length := by omega
      have h2 : n < acc.toList.length := by omega
      rw [List.drop_eq_getElem_cons h1, List.drop_eq_getElem_cons h2, List.map_cons]
      refine .cons ?_ (ih (n + 1) (by omega))
      obtain ⟨c', u, e1, e2⟩ := h.2 n acc.toList[n] (by rw [← Array.getElem?_toList]; exact List.getElem?_eq_getElem h2)
      rw [e2]
      have e3 : z.toArray[n]? = some c' := e1
      rw [List.getElem?_toArray, List.getElem?_eq_getElem h1] at e3
      cases e3
      exact ⟨u, rfl⟩
  simpa using this 0
theorem b_list (c : CkOk G P mg base k B X) : CallR X (.type "list") (rP G.K G.w pList) := by
  intro pins s σ H xs us Q I r h
  obtain ⟨O, ds, fr, d, n, cs, e, q⟩ := h
  have hK := c.K
  unfold pList at e
  split at e
  · cases e
    obtain ⟨x, rfl, c1⟩ := reps1 cs
    obtain ⟨a, vs, rfl, ha, ra⟩ := c1.lst
    exact call_list_of pins s σ H _ us Q I r ⟨a, vs, rfl, .inl (SqL.of ha), fun l hl => q _ _ (same_new hl) (out_lst n hl ra)⟩
  · cases e
    obtain ⟨x, rfl, c1⟩ := reps1 cs
    obtain ⟨a, vs, rfl, ha, ra⟩ := c1.tup
    exact call_list_of pins s σ H _ us Q I r ⟨a, vs, rfl, .inr (by rw [hK]; exact tq ha), fun l hl => q _ _ (same_new hl) (out_lst n hl ra)⟩
  · rename_i z
    split at e
    · rename_i hl
      cases e
      obtain ⟨x, rfl, c1⟩ := reps1 cs
      have ex := c1.str
      subst ex
      obtain ⟨u, rfl, t, rfl⟩ := vals1 r
      have hz := lenLe_size hl
      refine PySem.call_list_str (I.ok.hd c.calm) (sv z) t (fun h' tk acc' c' kp he hi => ?_) (by show (sv z).cps.size ≤ _; simpa using hz)
      have hv := vals_strs hi
      refine ⟨.ref s.heap.objs.size, _, I.laid (t' := tk) (o := .lst (z.map fun c => V.str ⟨#[c]⟩)) kp (Nat.le_refl _) ⟨by rw [List.length_map]; exact hz, acc'.toList, c', hv, by simpa using he⟩, rfl,
        q _ _ (same_new (I.hok.fresh (Nat.le_refl _))) (out_lst n (I.hok.fresh (Nat.le_refl _)) (reps_strs z))⟩
    · cases e
  · cases e
theorem b_min (c : CkOk G P mg base k B X) : CallR X (.builtin "min") (rP G.K G.w pMin) := by
  intro pins s σ H xs us Q I r h
  obtain ⟨O, ds, fr, d, n, cs, e, q⟩ := h
  unfold pMin at e
  split at e
  · cases e
    obtain ⟨x, y, rfl, c1, c2⟩ := reps2 cs
    exact call_min2 c.calm pins s σ H _ us Q I r ⟨_, _, by rw [c1.int, c2.int], q _ H (Same.refl H) (out_int _)⟩
  · cases e
theorem bools_v {K : Frag} {w : World} {H : Hp} : ∀ {ds : List D} {vs : List V} {bs : List Bool}, boolsOf ds = some bs → Reps K w H ds vs → vs = bs.map V.bl
  | [], _, _, e, .nil => by cases e; rfl
  | d :: ds, _, bs, e, .cons r t => by
    cases d with
    | bl b =>
      rw [boolsOf] at e
      obtain ⟨bs', e1, e2⟩ := Option.map_eq_some_iff.mp e
      subst e2
      cases r
      rw [List.map_cons, bools_v e1 t]
    | _ => simp [boolsOf] at e
theorem b_all (c : CkOk G P mg base k B X) : CallR X (.builtin "all") (rP G.K G.w pAll) := by
  intro pins s σ H xs us Q I r h
  obtain ⟨O, ds, fr, d, n, cs, e, q⟩ := h
  unfold pAll at e
  split at e
  · obtain ⟨bs, e1, e2⟩ := Option.map_eq_some_iff.mp e
    cases e2
    obtain ⟨x, rfl, c1⟩ := reps1 cs
    obtain ⟨a, vs, rfl, ha, ra⟩ := c1.lst
    have ev := bools_v e1 ra
    subst ev
    exact cr_all c.calm pins s σ H _ us Q I r ⟨a, bs, rfl, SqL.of ha, q _ H (Same.refl H) (out_bl _)⟩
  · cases e
theorem b_any (c : CkOk G P mg base k B X) : CallR X (.builtin "any") (rP G.K G.w pAny) := by
  intro pins s σ H xs us Q I r h
  obtain ⟨O, ds, fr, d, n, cs, e, q⟩ := h
  unfold pAny at e
  split at e
  · obtain ⟨bs, e1, e2⟩ := Option.map_eq_some_iff.mp e
    cases e2
    obtain ⟨x, rfl, c1⟩ := reps1 cs
    obtain ⟨a, vs, rfl, ha, ra⟩ := c1.lst
    have ev := bools_v e1 ra
    subst ev
    exact cr_any c.calm pins s σ H _ us Q I r ⟨a, bs, rfl, SqL.of ha, q _ H (Same.refl H) (out_bl _)⟩
  · cases e
theorem b_abs (c : CkOk G P mg base k B X) : CallR X (.builtin "abs") (rP G.K G.w pAbs) := by
  intro pins s σ H xs us Q I r h
  obtain ⟨O, ds, fr, d, n, cs, e, q⟩ := h
  unfold pAbs at e
  split at e
  · cases e
    obtain ⟨x, rfl, c1⟩ := reps1 cs
    exact call_abs pins s σ H _ us Q I r ⟨_, by rw [c1.int], q _ H (Same.refl H) (out_int _)⟩
  · cases e
theorem b_int (c : CkOk G P mg base k B X) : CallR X (.type "int") (rP G.K G.w pInt) := by
  intro pins s σ H xs us Q I r h
  obtain ⟨O, ds, fr, d, n, cs, e, q⟩ := h
  unfold pInt at e
  split at e
  · cases e
    obtain ⟨x, rfl, c1⟩ := reps1 cs
    exact call_int1 pins s σ H _ us Q I r (.inl ⟨_, by rw [c1.int], q _ H (Same.refl H) (out_int _)⟩)
  · cases e
    obtain ⟨x, rfl, c1⟩ := reps1 cs
    exact call_int1 pins s σ H _ us Q I r (.inr ⟨_, by rw [c1.bl], q _ H (Same.refl H) (out_int _)⟩)
  · cases e
theorem p_blt (hB : G.T.blt = stdB) (b : Nat) (x : Str) (ty : Bool) (id : String) (h : bltNm b = some (x, ty, id)) : ∃ pr, G.T.blt[b]? = some pr ∧
    (ty = false → bootBuiltins x = some (.builtin id) ∧ ∀ {B X} (_ : CkOk G P mg base k B X), CallR X (.builtin id) (rP G.K G.w pr)) ∧
    (ty = true → bootBuiltins x = some (.type id) ∧ ∀ {B X} (_ : CkOk G P mg base k B X), CallR X (.type id) (rP G.K G.w pr)) := by
  rw [hB]
  unfold bltNm at h
  split at h <;> cases h
  · exact ⟨pLen, rfl, fun _ => ⟨by decide +kernel, fun c => b_len c⟩, fun z => nomatch z⟩
  · exact ⟨pTuple, rfl, fun z => (nomatch z), fun _ => ⟨by decide +kernel, fun c => b_tuple c⟩⟩
  · exact ⟨pList, rfl, fun z => (nomatch z), fun _ => ⟨by decide +kernel, fun c => b_list c⟩⟩
  · exact ⟨pMin, rfl, fun _ => ⟨by decide +kernel, fun c => b_min c⟩, fun z => nomatch z⟩
  · exact ⟨pAll, rfl, fun _ => ⟨by decide +kernel, fun c => b_all c⟩, fun z => nomatch z⟩
  · exact ⟨pAny, rfl, fun _ => ⟨by decide +kernel, fun c => b_any c⟩, fun z => nomatch z⟩
  · exact ⟨pAbs, rfl, fun _ => ⟨by decide +kernel, fun c => b_abs c⟩, fun z => nomatch z⟩
  · exact ⟨pInt, rfl, fun z => (nomatch z), fun _ => ⟨by decide +kernel, fun c => b_int c⟩⟩

/-! ### methods -/
theorem idxD_get {x : D} (hx : cmpOk x = true) : ∀ {ds : List D} {n m : Nat}, cmpNs 50 ds = true → idxD x ds n = some m → ∃ j z, m = n + j ∧ (toPs ds)[j]? = some z ∧ PyData.eqv z (toP x) = true ∧ ∀ i z', i < j → (toPs ds)[i]? = some z' → PyData.eqv z' (toP x) = false
  | [], _, _, _, h => by cases h
  | d :: ds, n, m, hs, h => by
    simp only [cmpNs, Bool.and_eq_true] at hs
    rw [idxD] at h
    cases e : dEq d x with
    | true =>
      rw [e, if_pos rfl] at h
      cases h
      exact ⟨0, toP d, rfl, rfl, by rw [eqv_eq hs.1 hx]; exact e, fun i z' hi => by omega⟩
    | false =>
      rw [e, if_neg (by simp)] at h
      obtain ⟨j, z, e1, e2, e3, e4⟩ := idxD_get hx hs.2 h
      refine ⟨j + 1, z, by omega, by simpa [toPs] using e2, e3, fun i z' hi hz => ?_⟩
      cases i with
      | zero =>
        simp only [toPs, List.getElem?_cons_zero, Option.some.injEq] at hz
        subst hz
        rw [eqv_eq hs.1 hx]; exact e
      | succ i => exact e4 i z' (by omega) (by simpa [toPs] using hz)
theorem p_mth (hM : G.T.mth = stdM) (m : Nat) (x : Str) (h : mthNm m = some x) : ∃ pr, G.T.mth[m]? = some pr ∧ ∀ {B X} (_ : CkOk G P mg base k B X), MthAny X G.K G.w x pr := by
  rw [hM]
  unfold mthNm at h
  split at h <;> cases h
  refine ⟨⟨[4], mIndex⟩, rfl, fun {B X} c j hj => ?_⟩
  have ej : j = 4 := by simpa [natIn] using hj
  subst ej
  refine ⟨by decide, "list.index", F.plainAttrs_list, F.slot_list_index, F.type_list_index, ?_⟩
  intro pins s σ H x xs v us Q I rx rs h
  obtain ⟨O, d0, ds, fr, d, hk, n, c0, cs, e, q⟩ := h
  have e : mIndex d0 ds = some (fr, d) := e
  unfold mIndex at e
  split at e
  · split at e
    · rename_i ds0 x0 _ hs
      rw [Bool.and_eq_true] at hs
      obtain ⟨m, e1, e2⟩ := Option.map_eq_some_iff.mp e
      cases e2
      obtain ⟨y, rfl, c1⟩ := reps1 cs
      obtain ⟨a, vs, rfl, ha, ra⟩ := c0.lst
      obtain ⟨j, z, em, g1, g2, g3⟩ := idxD_get hs.1 (show cmpNs 50 ds0 = true from hs.2) e1
      have em : m = j := by omega
      subst em
      refine mt_indexD (hu65 c) pins s σ H _ _ v us Q I rx rs ⟨a, y, toP x0, toPs ds0, m, z, rfl, rfl, ?_, ?_, shapeds_ok hs.2, shaped_ok hs.1, g1, g2, g3, q _ H (Same.refl H) (out_int _)⟩
      · rw [c.K]; exact .lst (SqL.of ha) (reps_dp hs.2 (ra.same Hm_same))
      · rw [c.K]; exact rep_dp hs.1 c1.rep
    · cases e
  · cases e
theorem prims (hB : G.T.blt = stdB) (hM : G.T.mth = stdM) : PrimOk G P mg base k where
  bin := fun c o op h => p_bin c o op h
  cmp := fun c o op h => p_cmp c o op h
  idx := fun c => p_idx c
  slc := fun c => p_slc c
  rev := fun c => p_rev c
  aug := fun c o op h => p_aug c o op h
  blt := p_blt hB
  mth := p_mth hM
end
end Ev

end
section
/-! Ev16: the check holds for statements and for defs. -/
set_option autoImplicit false
set_option linter.all false
set_option Elab.async false
set_option maxRecDepth 100000
set_option maxHeartbeats 4000000
namespace Ev
open PySem PySem.Spec PyProof.Rows L2

/-! ### a comprehension that is stored on its own line -/
section
variable {G : Lg} {fu : Nat} {X : Cx} {W : WX} {pos : Pos}
theorem s_asgLc {i : Nat} {y : Str} {py : Pos} {vs : List Nat} {t : Pat} {it : CI} {ifs' : CEs} {elt' : CE} {elt tg iter : Expr} {ifs : List Expr} {scope : Scope} {own : List (Str × Nat)} {spos : Pos} (hc : X.calm = true) (hN : X.N.Nodup) (hy : X.N[i]? = some y) (hyl : X.env.scope.names.lookup y = some .local)
    (hsw : swapsWith (.ListComp elt [⟨tg, iter, ifs, 0⟩] scope pos) (some (.Name y py)) spos.line X.env = pure true) (hi : PI X tg iter (tI G W it)) (ok : BlkOk X.N X.env.scope scope own) (hv : own.map (·.2) = vs)
    (hg : ∀ (s : Shared) (H : Hp) (C : Addr) (cl : List (Str × Addr)) (fp : List Addr), PG (X.blk s H scope (compEnvC scope cl C X.env) fp) tg (tG G t)) (ht : ∀ (s : Shared) (H : Hp) (C : Addr) (cl : List (Str × Addr)) (fp : List Addr), PTs (X.blk s H scope (compEnvC scope cl C X.env) fp) ifs (tTs G W0 ifs'))
    (he : ∀ (s : Shared) (H : Hp) (C : Addr) (cl : List (Str × Addr)) (fp : List Addr), PE (X.blk s H scope (compEnvC scope cl C X.env) fp) elt (tE G W0 elt')) (hs : ∀ x, foldedSetIterable iter X.env x = pure x)
    (hp : ∀ j ∈ pvars t, j ∈ vs) (hpr : paired it = true → isTupP t = true) : PS X (.Assign [.Name y py] (.ListComp elt [⟨tg, iter, ifs, 0⟩] scope pos) spos) (tS G fu W (.asg (.var i) (.comp vs t it ifs' elt'))) :=
  (ps_setLc hc hN hy hyl hsw hi ok hg ht he hs).weak fun D σ H h => by
    rw [hv]
    exact lc_red hp hpr σ H _ (asgV_red h)
theorem s_asgLc2 {i : Nat} {y : Str} {py : Pos} {vs vs1 : List Nat} {t t1 : Pat} {it it1 : CI} {ifs' ifs1' : CEs} {elt' : CE} {elt tg iter tg1 iter1 : Expr} {ifs ifs1 : List Expr} {scope : Scope} {own : List (Str × Nat)} {spos : Pos} (hc : X.calm = true) (hN : X.N.Nodup) (hy : X.N[i]? = some y) (hyl : X.env.scope.names.lookup y = some .local)
    (hsw : swapsWith (.ListComp elt [⟨tg, iter, ifs, 0⟩, ⟨tg1, iter1, ifs1, 0⟩] scope pos) (some (.Name y py)) spos.line X.env = pure true) (hi : PI X tg iter (tI G W it)) (ok : BlkOk X.N X.env.scope scope own) (hv : own.map (·.2) = vs) (hv1 : ∀ i ∈ vs1, i ∈ vs)
    (hg : ∀ (s : Shared) (H : Hp) (C : Addr) (cl : List (Str × Addr)) (fp : List Addr), PG (X.blk s H scope (compEnvC scope cl C X.env) fp) tg (tG G t)) (ht : ∀ (s : Shared) (H : Hp) (C : Addr) (cl : List (Str × Addr)) (fp : List Addr), PTs (X.blk s H scope (compEnvC scope cl C X.env) fp) ifs (tTs G W0 ifs'))
    (hi1 : ∀ (s : Shared) (H : Hp) (C : Addr) (cl : List (Str × Addr)) (fp : List Addr), PI (X.blk s H scope (compEnvC scope cl C X.env) fp) tg1 iter1 (tI G W0 it1))
    (hg1 : ∀ (s : Shared) (H : Hp) (C : Addr) (cl : List (Str × Addr)) (fp : List Addr), PG (X.blk s H scope (compEnvC scope cl C X.env) fp) tg1 (tG G t1)) (ht1 : ∀ (s : Shared) (H : Hp) (C : Addr) (cl : List (Str × Addr)) (fp : List Addr), PTs (X.blk s H scope (compEnvC scope cl C X.env) fp) ifs1 (tTs G W0 ifs1'))
    (he : ∀ (s : Shared) (H : Hp) (C : Addr) (cl : List (Str × Addr)) (fp : List Addr), PE (X.blk s H scope (compEnvC scope cl C X.env) fp) elt (tE G W0 elt')) (hs : ∀ x, foldedSetIterable iter X.env x = pure x) (hs1 : ∀ env x, foldedSetIterable iter1 env x = pure x)
    (hp : ∀ j ∈ pvars t, j ∈ vs) (hp1 : ∀ j ∈ pvars t1, j ∈ vs1) (hpr : paired it = true → isTupP t = true) (hpr1 : paired it1 = true → isTupP t1 = true) :
    PS X (.Assign [.Name y py] (.ListComp elt [⟨tg, iter, ifs, 0⟩, ⟨tg1, iter1, ifs1, 0⟩] scope pos) spos) (tS G fu W (.asg (.var i) (.comp2 vs t it ifs' vs1 t1 it1 ifs1' elt'))) :=
  (ps_setLc2 hc hN hy hyl hsw hi ok (by rw [hv]; exact hv1) hg ht hi1 hg1 ht1 he hs hs1).weak fun D σ H h => by
    rw [hv]
    exact lc2_red hp hp1 hpr hpr1 σ H _ (asgV_red h)

/-! ### try -/
inductive CR (G : Lg) (X : Cx) : List Cl → List (List Nat × HB) → Prop
  | nil : CR G X [] []
  | cons {k : Cl} {j : Nat} {J : Addr} {h : HB} {l : List Cl} {hs : List (List Nat × HB)} (hc : k.c = .ref J) (hj : G.xt.addr j = some J)
      (sp : ∀ (W : WX) (D : Ends) (Ob Os : List Addr) (env : Env) (σ : L2.St) (H : Hp) (a : Addr) (c : Nat) (p : List Ev.D) (cls : Value) (dx : Option Addr), StRel G.K G.w Ob Os env σ H → H a = none → XRel G.K G.w G.xt H c p cls dx → SPost G W Ob Os H D (handle1 G.T env c p h) → k.ts a cls dx (outSlot D k.nm) (inSlot σ a k.nm) H)
      (r : CR G X l hs) : CR G X (k :: l) (([j], h) :: hs)
theorem cr_ok (hK : X.K = G.K) (sub : ∀ (c j : Nat) (C J : Addr), G.xt.addr c = some C → G.xt.addr j = some J → PySem.W.exmOne G.K (.ref C) (.ref J) = some (G.T.sub c j)) {D : Ends} {Ob Os : List Addr} {env : Env} {σ : L2.St} {H : Hp} {c : Nat} {p : List Ev.D} {cls : Value} {dx : Option Addr}
    (S : StRel G.K G.w Ob Os env σ H) (x : XRel G.K G.w G.xt H c p cls dx) {l : List Cl} {hs : List (List Nat × HB)} (r : CR G X l hs) : SPost G W Ob Os H D (handle G.T env c p hs) → wCl X.K W D l cls dx σ H := by
  induction r with
  | nil => intro h; exact h Os σ H (.refl _ _) S cls dx x
  | @cons k j J h l hs hc hj sp r ih =>
    intro hq
    obtain ⟨C, hC, ec, _⟩ := id x
    refine ⟨G.T.sub c j, by rw [hK, ec, hc]; exact sub c j C J hC hj, fun eb a na => ?_, fun eb => ?_⟩
    · rw [handle] at hq
      simp only [List.any_cons, List.any_nil, Bool.or_false, eb, if_true] at hq
      exact sp W D Ob Os env σ H a c p cls dx S na x hq
    · rw [handle] at hq
      simp only [List.any_cons, List.any_nil, Bool.or_false, eb, Bool.false_eq_true, if_false] at hq
      exact ih hq
theorem s_try {b : CSs} {hs : List (List Nat × HB)} {body : List Stmt} {h₀ : ExceptHandler} {hds : List ExceptHandler} {l : List Cl} (hst : X.stack = X.env :: X.outer) (hf : X.env.frame = some X.env.locals) (hN : X.N.Nodup) (tk : Takes X W) (hK : X.K = G.K)
    (sub : ∀ (c j : Nat) (C J : Addr), G.xt.addr c = some C → G.xt.addr j = some J → PySem.W.exmOne G.K (.ref C) (.ref J) = some (G.T.sub c j))
    (hb : ∀ (W : WX) (pn : List (Addr × Obj)) (xe : Value → Shared → Prop), Takes (X.tr pn xe) W → PassesOwn (model X.prog X.w) X.A X.env xe → PSs (X.tr pn xe) body (tSs G fu W b))
    (hh : ClsOk X (h₀ :: hds) l) (r : CR G X l hs) : PS X (.Try body (h₀ :: hds) [] [] pos) (tS G fu W (.tryS b hs)) := by
  refine (ps_tryC (tb := fun W => tSs G fu W b) hst hf hN tk hb hh).weak fun D σ H ⟨Ob, Os, env, S, h⟩ => ⟨Ob, Os, env, S, ?_⟩
  rw [exS] at h
  cases e : exSs G.T G.cl fu env b with
  | none => rw [e] at h; exact h
  | some q =>
    rw [e] at h
    cases q with
    | nx e => exact h
    | bk e => exact h
    | ct e => exact h
    | rt f d => exact h
    | ex e c p => exact fun Os' σ' H' f S' cls dx x => cr_ok hK sub S' x r (SPost.mono h f)
end

/-! ### the check of statements -/
section
variable (tb : Tabs)
def nameIs : Expr → Str → Bool
  | .Name y _, x => decide (y = x)
  | _, _ => false
/-- does the model take the value off with the store -/
def swB (B : Blk) (x : Str) (px : Pos) : Expr → Bool
  | .ListComp _ _ s p => (B.sc.names.lookup x == some .local) && px.line == p.line && !(s.names.any fun (n, k) => n == x && (k == .local || k == .cell))
  | .SetComp _ _ s p => (B.sc.names.lookup x == some .local) && px.line == p.line && !(s.names.any fun (n, k) => n == x && (k == .local || k == .cell))
  | .DictComp _ _ _ s p => (B.sc.names.lookup x == some .local) && px.line == p.line && !(s.names.any fun (n, k) => n == x && (k == .local || k == .cell))
  | _ => false
def notComp : Expr → Bool
  | .ListComp _ _ _ _ => false | .SetComp _ _ _ _ => false | .DictComp _ _ _ _ _ => false
  | _ => true
def notTuple : Expr → Bool
  | .Tuple _ _ _ => false
  | _ => true
def foldedT (ts : List Expr) (vs : List Expr) : Bool := vs.all (foldedForSure 8) && noStarB vs && (ts.length != vs.length || true)
def okH (B : Blk) : List Nat × HB → ExceptHandler → Bool
  | (cs, h), .ExceptHandler (some (.Name x _)) n [.Return (some e) _] _ => (match cs with | [c] => decide (tb.exs[c]? = some x) | _ => false) && glB B.sc x && nm x &&
      (match n with | none => true | some y => (match B.N.idxOf? y with | some _ => true | none => false) && B.sc.names.lookup y == some .local) &&
      (match h with
      | .ret d => conB d e
      | .isi k a b => (match e, n with
        | .IfExp (.Call (.Name i _) [.Name y' _, .Name z _] [] _) ea eb _, some y => decide (i = "isinstance") && glB B.sc "isinstance" && decide (y' = y) && nm y && decide (tb.exs[k]? = some z) && glB B.sc z && nm z && conB a ea && conB b eb
        | _, _ => false)
      | _ => false)
  | _, _ => false
def okHs (B : Blk) : List (List Nat × HB) → List ExceptHandler → Bool
  | [], [] => true
  | h :: hs, e :: es => okH tb B h e && okHs B hs es
  | _, _ => false
mutual
def okS (B : Blk) : CS → Stmt → Bool
  | .pass, s => match s with
    | .Pass _ => true
    | _ => false
  | .brk, s => match s with
    | .Break _ => true
    | _ => false
  | .cont, s => match s with
    | .Continue _ => true
    | _ => false
  | .expr a, s => match s with
    | .Expr e _ => okE tb false B a e && notComp e
    | _ => false
  | .asg p a, s => match s with
    | .Assign [tg] e sp => (match p with
      | .var i => (match tg with
        | .Name x px => slotB B i x && storB B x &&
          (if swB B x px e then (match a, e with
            | .comp vs p it ifs elt, .ListComp el [⟨tg, iter, ei, 0⟩] scope _ => okI tb B it iter && notSet iter && blkC B.N B.sc scope (ownOf B.N vs) && okP (B.inner scope) p tg && okT1 tb (B.inner scope) ifs ei && okE tb false (B.inner scope) elt el && (pvars p).all (fun j => decide (j ∈ vs)) && (!paired it || isTupP p)
            | .comp2 vs p it ifs vs1 p1 it1 ifs1 elt, .ListComp el [⟨tg, iter, ei, 0⟩, ⟨tg1, iter1, ei1, 0⟩] scope _ => okI tb B it iter && notSet iter && blkC B.N B.sc scope (ownOf B.N vs) && okP (B.inner scope) p tg && okT1 tb (B.inner scope) ifs ei && (pvars p).all (fun j => decide (j ∈ vs)) && (!paired it || isTupP p) &&
                vs1.all (fun j => decide (j ∈ vs)) && okI tb (B.inner scope) it1 iter1 && notSet iter1 && okP (B.inner scope) p1 tg1 && okT1 tb (B.inner scope) ifs1 ei1 && okE tb false (B.inner scope) elt el && (pvars p1).all (fun j => decide (j ∈ vs1)) && (!paired it1 || isTupP p1)
            | _, _ => false)
          else okE tb false B a e)
        | _ => false)
      | .tup ps => (match tg with
        | .Tuple ts _ _ => okP B (.tup ps) tg && okE tb false B a e && (notTuple e || (match e with | .Tuple vs _ _ => vs.all (foldedForSure 8) && noStarB vs && decide (vs.length = ts.length) | _ => false)) && notComp e
        | _ => false))
    | _ => false
  | .par is as, s => match s with
    | .Assign [.Tuple [.Name x px, .Name y py] _ _] (.Tuple [ea, eb] _ _) _ => (match is with
      | [i, j] => slotB B i x && slotB B j y && decide (i ≠ j) && (B.sc.names.lookup x == some .local) && (B.sc.names.lookup y == some .local) && okL tb false B as [ea, eb] && noStarB [ea, eb] && px.line == py.line && !(x == y) && !([ea, eb].all (foldedForSure 8)) && !([ea, eb].all (constantsAlone 8))
      | _ => false)
    | _ => false
  | .aug i o a, s => match s with
    | .AugAssign (.Name x _) op e _ => slotB B i x && storB B x && bopB o op && okE tb false B a e
    | _ => false
  | .app i a, s => match s with
    | .Expr (.Call (.Attribute (.Name x _) m ap) [e] [] cp) _ => slotB B i x && visB B.sc x && nm x && decide (m = "append") && okE tb false B a e && noStarB [e] && ap.endLine == cp.line
    | _ => false
  | .ifS c a b, s => match s with
    | .If ec sa sb _ => okE tb true B c ec && okSs B a sa && okSs B b sb
    | _ => false
  | .forS p it b, s => match s with
    | .For tg iter body [] _ => okI tb B it iter && okP B p tg && okSs B b body && notSet iter && (!paired it || isTupP p)
    | _ => false
  | .whl c b, s => match s with
    | .While ec body [] _ => okE tb true B c ec && okSs B b body
    | _ => false
  | .ret a, s => match s with
    | .Return (some e) _ => okE tb false B a e
    | _ => false
  | .retN, s => match s with
    | .Return none _ => true
    | _ => false
  | .raise c as, s => match s with
    | .Raise (some (.Call (.Name x _) [.Constant (.str y) _ _] [] _)) none _ => decide (tb.exs[c]? = some x) && glB B.sc x && nm x && (match as with | .cons (.con (.str z)) .nil => decide (sv z = y) | _ => false)
    | _ => false
  | .tryS b hs, s => match s with
    | .Try body (h₀ :: hds) [] [] _ => okSs B b body && okHs tb B hs (h₀ :: hds)
    | _ => false
  | _, _ => false
def okSs (B : Blk) : CSs → List Stmt → Bool
  | .nil, ss => match ss with
    | [] => true
    | _ => false
  | .cons a as, ss => match ss with
    | s :: ss => okS B a s && okSs B as ss
    | _ => false
end
end
end Ev

end
section
/-! Ev17: the check holds for statements and for defs. -/
set_option autoImplicit false
set_option linter.all false
set_option Elab.async false
set_option maxRecDepth 100000
set_option maxHeartbeats 4000000
namespace Ev
open PySem PySem.Spec PyProof.Rows L2
theorem blockFn {env : PySem.Env} (h : env.scope.kind = .function) : env.blockKind = .function := by unfold Env.blockKind; rw [h]; rfl
theorem sw_name {B : Blk} {X : Cx} {x : Str} {px : Pos} {e : Expr} {l : Nat} (hk : X.env.scope.kind = .function) (hs : X.env.scope = B.sc) : swapsWith e (some (.Name x px)) l X.env = pure (swB B x px e) := by
  cases e with
  | ListComp a b s p =>
    show pure (X.env.blockKind == .function && X.env.kindOf x == some .local && px.line == p.line && !(s.names.any fun (n, k) => n == x && (k == .local || k == .cell))) = _
    rw [blockFn hk]
    unfold Env.kindOf
    rw [hs]
    rfl
  | SetComp a b s p =>
    show pure (X.env.blockKind == .function && X.env.kindOf x == some .local && px.line == p.line && !(s.names.any fun (n, k) => n == x && (k == .local || k == .cell))) = _
    rw [blockFn hk]
    unfold Env.kindOf
    rw [hs]
    rfl
  | DictComp a b c s p =>
    show pure (X.env.blockKind == .function && X.env.kindOf x == some .local && px.line == p.line && !(s.names.any fun (n, k) => n == x && (k == .local || k == .cell))) = _
    rw [blockFn hk]
    unfold Env.kindOf
    rw [hs]
    rfl
  | _ => rfl
theorem sw_none {e : Expr} {t : Option Expr} {l : Nat} {env : PySem.Env} (h : notComp e = true) : swapsWith e t l env = pure false := by cases e <;> first | rfl | cases h
theorem sws_nt {tg e : Expr} {env : PySem.Env} (h : notTuple e = true) : swappedStores [tg] e env = pure none := by
  cases e <;> first | (cases h; done) | (cases tg <;> rfl)
theorem sws_fold {ts vs : List Expr} {k1 k2 : Nat} {p1 p2 : Pos} {env : PySem.Env} (h : vs.all (foldedForSure 8) = true) : swappedStores [.Tuple ts k1 p1] (.Tuple vs k2 p2) env = pure none := by
  show (if _ then pure none else if _ then pure none else if _ then pure none else if _ then pure none else _ : Sem (Option (List Str))) = pure none
  split
  · rfl
  split
  · rfl
  split
  · rfl
  first | rfl | rw [if_pos h]
theorem sws_par {x y : Str} {px py pt pt2 : Pos} {kt k2 : Nat} {a b : Expr} {env : PySem.Env} (hk : env.scope.kind = .function) (hx : env.scope.names.lookup x = some .local) (hy : env.scope.names.lookup y = some .local) (hl : (px.line == py.line) = true) (hne : (x == y) = false) (hns : noStarB [a, b] = true)
    (h1 : [a, b].all (foldedForSure 8) = false) (h2 : [a, b].all (constantsAlone 8) = false) : swappedStores [.Tuple [.Name x px, .Name y py] kt pt] (.Tuple [a, b] k2 pt2) env = pure (some [x, y]) := by
  have hst : ([a, b].any fun | .Starred .. => true | _ => false) = false := by
    unfold noStarB at hns
    simp only [List.all_cons, List.all_nil, Bool.and_true, Bool.and_eq_true] at hns
    obtain ⟨q1, q2⟩ := hns
    cases a <;> first | (cases q1; done) | skip
    all_goals (cases b <;> first | (cases q2; done) | rfl)
  have hl' : (py.line == px.line) = true := by
    have := beq_iff_eq.mp hl
    rw [this]; exact beq_self_eq_true _
  have k1 : env.kindOf x = some .local := hx
  have k2' : env.kindOf y = some .local := hy
  have hl2 : py.line = px.line := beq_iff_eq.mp hl'
  have hnames : ([Expr.Name x px, .Name y py].filterMap fun
    | .Name id pos => if env.kindOf id == some .local && pos.line == (([Expr.Name x px, .Name y py].head?.map (·.pos.line)).getD 0) then some id else none
    | _ => none) = [x, y] := by
    simp [k1, k2', Expr.pos, hl2, List.filterMap_cons]
  have hed : ([x, y] : List Str).eraseDups.length = 2 := by
    have hne' : ¬ (y == x) = true := by
      intro e
      have := beq_iff_eq.mp e
      subst this
      rw [beq_self_eq_true] at hne
      cases hne
    simp [List.eraseDups_cons, hne', Bool.eq_false_iff.mpr hne']
  show (if (!(([Expr.Name x px, .Name y py].length == 2 || [Expr.Name x px, .Name y py].length == 3)) || [a, b].length != [Expr.Name x px, .Name y py].length || env.blockKind != .function) = true then pure none else
    if ([a, b].any fun | .Starred .. => true | _ => false) = true then pure none else
    if (([Expr.Name x px, .Name y py].filterMap fun
    | .Name id pos => if env.kindOf id == some .local && pos.line == (([Expr.Name x px, .Name y py].head?.map (·.pos.line)).getD 0) then some id else none
    | _ => none).length != [Expr.Name x px, .Name y py].length || ([Expr.Name x px, .Name y py].filterMap fun
    | .Name id pos => if env.kindOf id == some .local && pos.line == (([Expr.Name x px, .Name y py].head?.map (·.pos.line)).getD 0) then some id else none
    | _ => none).eraseDups.length != ([Expr.Name x px, .Name y py].filterMap fun
    | .Name id pos => if env.kindOf id == some .local && pos.line == (([Expr.Name x px, .Name y py].head?.map (·.pos.line)).getD 0) then some id else none
    | _ => none).length) = true then pure none else
    if [a, b].all (foldedForSure 8) = true then pure none else
    if [a, b].all (constantsAlone 8) = true then (do let _ ← unsupported "assign.tuple-of-constant-expressions:order-of-the-stores"; pure (some ([Expr.Name x px, .Name y py].filterMap fun
    | .Name id pos => if env.kindOf id == some .local && pos.line == (([Expr.Name x px, .Name y py].head?.map (·.pos.line)).getD 0) then some id else none
    | _ => none))) else pure (some ([Expr.Name x px, .Name y py].filterMap fun
    | .Name id pos => if env.kindOf id == some .local && pos.line == (([Expr.Name x px, .Name y py].head?.map (·.pos.line)).getD 0) then some id else none
    | _ => none)) : Sem (Option (List Str))) = _
  rw [hnames, hst, hed, h1, h2, blockFn hk]
  rfl

structure SOk (G : Lg) (P : Program) (mg : Str → Option Value) (base : Heap) (k : Nat) (B : Blk) (X : Cx) (W : WX) : Prop where
  c : CkOk G P mg base k B X
  tk : Takes X W
  po : PassesOwn (model X.prog X.w) X.A X.env X.xe
  kind : X.env.scope.kind = .function
  stk : X.stack = X.env :: X.outer
  fr : X.env.frame = some X.env.locals
section
variable {tb : Tabs} {G : Lg} {P : Program} {mg : Str → Option Value} {base : Heap} {k : Nat} {fu : Nat}
theorem SOk.tr {B : Blk} {X : Cx} {W W' : WX} (s : SOk G P mg base k B X W) {pn : List (Addr × Obj)} {xe : Value → Shared → Prop} (tk : Takes (X.tr pn xe) W') (po : PassesOwn (model X.prog X.w) X.A X.env xe) : SOk G P mg base k B (X.tr pn xe) W' :=
  ⟨⟨s.c.P, s.c.w, s.c.K, s.c.mg, s.c.base, s.c.calm, s.c.N, s.c.nd, s.c.sc, s.c.st, s.c.room⟩, tk, po, s.kind, s.stk, s.fr⟩
theorem storX {B : Blk} {X : Cx} (c : CkOk G P mg base k B X) {x : Str} (h : storB B x = true) : X.env.scope.names.lookup x = some .local ∨ (X.env.scope.names.lookup x = some .cell ∧ X.fn x = true) := by
  rw [c.sc]
  rcases stor_ok h with h | ⟨h, q⟩
  · exact .inl h
  · exact .inr ⟨h, c.st _ q⟩
theorem gl_suite {B : Blk} {X : Cx} (c : CkOk G P mg base k B X) {x : Str} (h : glB B.sc x = true) {a : Addr} {pn : List (Addr × Obj)} : Gl (X.suite a pn) x := gl_ok (X := X) c.sc h
/-- a constant's value -/
def cv : D → V
  | .bl b => .bl b
  | .int i => .int i
  | .str x => .str (sv x)
  | _ => .non
theorem con_cv {d : D} {e : Expr} (h : conB d e = true) : (∀ (K : Frag) (w : World) (H : Hp), Rep K w H d (cv d)) ∧ ∀ X : Cx, PE X e (tC (cv d)) := by
  unfold conB at h
  split at h
  · exact ⟨fun K w H => .non, fun X => pe_non⟩
  · rename_i b b' _ _
    cases (beq_iff_eq.mp h)
    exact ⟨fun K w H => .bl b, fun X => pe_bl⟩
  · rename_i i j _ _
    cases (beq_iff_eq.mp h)
    exact ⟨fun K w H => .int i, fun X => pe_int⟩
  · rename_i x y _ _
    cases (of_decide_eq_true h)
    exact ⟨fun K w H => .str x, fun X => pe_str⟩
  · cases h
def nmOf (B : Blk) : Option Str → Option Nat
  | none => none
  | some y => B.N.idxOf? y
theorem idxOf_get {N : List Str} {y : Str} {i : Nat} (h : N.idxOf? y = some i) : N[i]? = some y := by
  unfold List.idxOf? at h
  rw [List.findIdx?_eq_some_iff_getElem] at h
  obtain ⟨hi, e, _⟩ := h
  rw [List.getElem?_eq_getElem hi, beq_iff_eq.mp e]
theorem nm_case {B : Blk} {X : Cx} (c : CkOk G P mg base k B X) {n : Option Str} (h : (match n with | none => true | some y => (match B.N.idxOf? y with | some _ => true | none => false) && B.sc.names.lookup y == some .local) = true) :
    (n = none ∧ nmOf B n = none) ∨ ∃ i y, n = some y ∧ nmOf B n = some i ∧ X.N[i]? = some y ∧ X.env.scope.names.lookup y = some .local := by
  cases n with
  | none => exact .inl ⟨rfl, rfl⟩
  | some y =>
    have h : ((match B.N.idxOf? y with | some _ => true | none => false) && B.sc.names.lookup y == some .local) = true := h
    rw [Bool.and_eq_true] at h
    cases e : B.N.idxOf? y with
    | none => rw [e] at h; cases h.1
    | some i => exact .inr ⟨i, y, rfl, e, by rw [c.N]; exact idxOf_get e, by rw [c.sc]; exact beq_iff_eq.mp h.2⟩
theorem out_rt (D : Ends) (n : Option Nat) : (outSlot D n).rt = D.rt := by cases n <;> rfl
def tsRet (v : V) : Addr → Value → Option Addr → TS := fun _ _ _ => tRet (tC v)
def tsIsi (K : Frag) (i : Nat) (J : Addr) (va vb : V) : Addr → Value → Option Addr → TS := fun a cls dx D σ H => ∃ C b, cls = .ref C ∧ dx = none ∧ ExcC K C ∧ (i < σ.length → σ[i]? = some (some (.ref a))) ∧ PySem.W.kitOne K (.ref C) (.ref J) = some b ∧ D.rt (if b = true then va else vb) H
theorem ss_isi {X : Cx} {a : Addr} {oe : Obj} {cls : Value} {dx : Option Addr} {pn : List (Addr × Obj)} {i : Nat} {y z : Str} {J : Addr} {ea eb : Expr} {va vb : V} {p1 p2 p3 p4 p5 p6 : Pos} (hz : Zc cls dx oe) (hf : ∃ vs, oe.data = .fields vs) (hN : X.N[i]? = some y) (hl : X.env.scope.names.lookup y = some .local) (hy : nm y = true)
    (hg : Gl X "isinstance") (hm : X.mg "isinstance" = none) (hgz : Gl X z) (hmz : X.mg z = some (.ref J)) (hz2 : nm z = true) (ha : ∀ X : Cx, PE X ea (tC va)) (hb : ∀ X : Cx, PE X eb (tC vb)) :
    PSs (X.suite a ((a, oe) :: pn)) [.Return (some (.IfExp (.Call (.Name "isinstance" p1) [.Name y p2, .Name z p3] [] p4) ea eb p5)) p6] (tsIsi X.K i J va vb a cls dx) := by
  refine ⟨fun pins s σ H D I ⟨C, b, e1, e2, ec, hσ, hk, q⟩ => ?_⟩
  subst e1
  subst e2
  obtain ⟨n1, n2, _⟩ := nm_ok hy
  obtain ⟨m1, _, _⟩ := nm_ok hz2
  have hA : PA (X.suite a ((a, oe) :: pn)) [.Name y p2, .Name z p3] (tCons (tVar i) (tCons (tC (.ref J)) tNil)) := pa_cons (pe_var (X := X.suite a ((a, oe) :: pn)) hN (.inl hl) n1 n2) (pa_cons (pe_glob (X := X.suite a ((a, oe) :: pn)) hgz hmz rfl m1) pa_nil)
  have hc := pe_callB (X := X.suite a ((a, oe) :: pn)) (p := p1) (pos := p4) (call_isE (X := X) ec hz hf) hg hm boot_isi hA (by decide +kernel) (by decide +kernel) rfl rfl
  have ht := pt_truth hc (plainT_ok rfl _)
  refine (pss_one (ps_ret (pe_ifExp ht (ha _) (hb _)))).run pins s σ H D I ?_
  have hσ := hσ (by rw [I.len]; exact (List.getElem?_eq_some_iff.mp hN).1)
  refine ⟨_, hσ, .ref J, .ref J, b, rfl, fun u r => r, hk, b, rfl, ?_⟩
  cases b with
  | true => exact ite_tt q
  | false => exact ite_ff q
theorem okH_ok (sta : StaOk tb G P mg base k) {B : Blk} {X : Cx} (c : CkOk G P mg base k B X) : ∀ {hs : List (List Nat × HB)} {hds : List ExceptHandler}, okHs tb B hs hds = true → ∃ l, ClsOk X hds l ∧ CR G X l hs := by
  intro hs
  induction hs with
  | nil =>
    intro hds h
    cases hds with
    | nil => exact ⟨[], .nil, .nil⟩
    | cons _ _ => cases h
  | cons hh hs ih =>
    intro hds h
    cases hds with
    | nil => cases h
    | cons hd hds =>
    rw [okHs, Bool.and_eq_true] at h
    obtain ⟨l, h1, h2⟩ := ih h.2
    have h0 := h.1
    unfold okH at h0
    split at h0
    · rename_i cs hb x xp n e rp hp
      simp only [Bool.and_eq_true] at h0
      obtain ⟨⟨⟨⟨g1, g2⟩, g3⟩, g4⟩, g5⟩ := h0
      split at g1
      · rename_i cj
        obtain ⟨J, q1, q2, q3, q4, q5, q6, q7⟩ := sta.exs cj x (of_decide_eq_true g1)
        obtain ⟨n1, n2, n3⟩ := nm_ok g3
        have hN : Names X x (.ref J) := ⟨gl_ok c.sc g2, n1, .inl (by rw [c.mg]; exact q1)⟩
        have hn := nm_case c g4
        split at g5
        · rename_i d
          obtain ⟨rv, pv⟩ := con_cv g5
          refine ⟨⟨.ref J, nmOf B n, tsRet (cv d)⟩ :: l, .cons hN hn (fun a oe cls d pn hz hf => pss_one (ps_ret (pv _))) h1, .cons rfl q2 (fun W D Ob Os env σ H a c p cls dx S na x hq => ?_) h2⟩
          have hq : SPost G W Ob Os H D (some (.rt .st d)) := hq
          show (outSlot D (nmOf B n)).rt (cv d) H
          rw [out_rt]
          exact hq Os (cv d) H (.refl _ _) (rv _ _ _)
        · rename_i kj da db
          split at g5
          · rename_i i ip y' yp z zp cp ea eb ifp y
            simp only [Bool.and_eq_true] at g5
            obtain ⟨⟨⟨⟨⟨⟨⟨⟨f1, f2⟩, f3⟩, f4⟩, f5⟩, f6⟩, f7⟩, f8⟩, f9⟩ := g5
            have e1 := of_decide_eq_true f1
            have e2 := of_decide_eq_true f3
            subst e1
            subst e2
            obtain ⟨J', r1, r2, _⟩ := sta.exs kj z (of_decide_eq_true f5)
            obtain ⟨ra, pa⟩ := con_cv f8
            obtain ⟨rb, pb⟩ := con_cv f9
            rcases hn with ⟨en, _⟩ | ⟨iy, y2, en, em, hy1, hy2⟩
            · cases en
            · cases en
              refine ⟨⟨.ref J, nmOf B (some y'), tsIsi X.K iy J' (cv da) (cv db)⟩ :: l, .cons hN (.inr ⟨iy, _, rfl, em, hy1, hy2⟩) (fun a oe cls d pn hz hf => ss_isi hz hf hy1 hy2 f4 (gl_ok c.sc f2) (by rw [c.mg]; exact sta.blt _ (by decide)) (gl_ok c.sc f6) (by rw [c.mg]; exact r1) f7 pa pb) h1, .cons rfl q2 (fun W D Ob Os env σ H a c' p cls dx S na x hq => ?_) h2⟩
              have hq : SPost G W Ob Os H D (some (.rt .st (if G.T.sub c' kj then da else db))) := hq
              obtain ⟨C, hC, ec, hx⟩ := x
              obtain ⟨s1, s2, s3⟩ := sta.sub c' kj C J' hC r2
              show tsIsi X.K iy J' (cv da) (cv db) a cls dx (outSlot D (nmOf B (some y'))) (inSlot σ a (nmOf B (some y'))) H
              rw [em]
              have hdx : dx = none := by
                rcases hx with ⟨_, e⟩ | ⟨a', vs', hne, _⟩
                · exact e
                · exact absurd (sta.flds c') hne
              refine ⟨C, G.T.sub c' kj, ec, hdx, by rw [c.K]; exact s3, ?_, by rw [c.K]; exact s2, ?_⟩
              · intro hlt
                show (σ.set iy (some (.ref a)))[iy]? = _
                rw [List.getElem?_set_self (by simpa [inSlot] using hlt)]
              · show D.rt _ H
                refine hq Os _ H (.refl _ _) ?_
                cases G.T.sub c' kj with
                | true => exact ra _ _ _
                | false => exact rb _ _ _
          · cases g5
        · cases g5
      · cases g1
    · cases h0
end
end Ev

end
section
/-! Ev18: the check holds for statements and for defs. -/
set_option autoImplicit false
set_option linter.all false
set_option Elab.async false
set_option maxRecDepth 100000
set_option maxHeartbeats 4000000
namespace Ev
open PySem PySem.Spec PyProof.Rows L2
section
variable {tb : Tabs} {G : Lg} {P : Program} {mg : Str → Option Value} {base : Heap} {k : Nat} {fu : Nat}
mutual
theorem okS_ok (sta : StaOk tb G P mg base k) : ∀ {B : Blk} {X : Cx} {W : WX} {c : CS} {s : Stmt}, SOk G P mg base k B X W → okS tb B c s = true → PS X s (tS G fu W c)
  | B, X, W, .pass, s, so, h => by
    unfold okS at h
    split at h
    · exact s_pass
    · cases h
  | B, X, W, .brk, s, so, h => by
    unfold okS at h
    split at h
    · exact s_brk
    · cases h
  | B, X, W, .cont, s, so, h => by
    unfold okS at h
    split at h
    · exact s_cont
    · cases h
  | B, X, W, .expr a, s, so, h => by
    unfold okS at h
    split at h
    · rw [Bool.and_eq_true] at h
      exact s_expr (okE_ok sta (t := false) so.c so.tk h.1) (sw_none h.2)
    · cases h
  | B, X, W, .asg p a, s, so, h => by
    have c := so.c
    unfold okS at h
    split at h
    · rename_i tg e sp
      split at h
      · rename_i i
        split at h
        · rename_i x px
          simp only [Bool.and_eq_true] at h
          obtain ⟨⟨h1, h2⟩, h3⟩ := h
          have hN : X.N.Nodup := by rw [c.N]; exact c.nd
          have hx : X.N[i]? = some x := by rw [c.N]; exact of_decide_eq_true h1
          have sw := sw_name (B := B) (x := x) (px := px) (e := e) (l := sp.line) so.kind c.sc
          split at h3
          · rename_i hsw
            rw [hsw] at sw
            have hxl : X.env.scope.names.lookup x = some .local := by
              rw [c.sc]
              unfold swB at hsw
              split at hsw <;> first | (cases hsw; done) | skip
              all_goals
                simp only [Bool.and_eq_true] at hsw
                exact beq_iff_eq.mp hsw.1.1
            split at h3
            · simp only [Bool.and_eq_true] at h3
              obtain ⟨⟨⟨⟨⟨⟨⟨h1, h2⟩, h3⟩, h4⟩, h5⟩, h6⟩, h7⟩, h8⟩ := h3
              exact s_asgLc c.calm hN hx hxl sw (okI_ok sta c so.tk h1) (by rw [c.N, c.sc]; exact blkOk_by h3) own_vs
                (fun s H C cl fp => okP_ok (c.inner _ s H C cl fp) h4) (fun s H C cl fp => okT1_ok sta (c.inner _ s H C cl fp) takes0 h5) (fun s H C cl fp => okE_ok sta (t := false) (c.inner _ s H C cl fp) takes0 h6) (fold_ok h2) (all_in h7) (pr_ok h8)
            · simp only [Bool.and_eq_true] at h3
              obtain ⟨⟨⟨⟨⟨⟨⟨⟨⟨⟨⟨⟨⟨⟨h1, h2⟩, h3⟩, h4⟩, h5⟩, h6⟩, h7⟩, h8⟩, h9⟩, h10⟩, h11⟩, h12⟩, h13⟩, h14⟩, h15⟩ := h3
              exact s_asgLc2 c.calm hN hx hxl sw (okI_ok sta c so.tk h1) (by rw [c.N, c.sc]; exact blkOk_by h3) own_vs (all_in h8)
                (fun s H C cl fp => okP_ok (c.inner _ s H C cl fp) h4) (fun s H C cl fp => okT1_ok sta (c.inner _ s H C cl fp) takes0 h5)
                (fun s H C cl fp => okI_ok sta (c.inner _ s H C cl fp) takes0 h9)
                (fun s H C cl fp => okP_ok (c.inner _ s H C cl fp) h11) (fun s H C cl fp => okT1_ok sta (c.inner _ s H C cl fp) takes0 h12) (fun s H C cl fp => okE_ok sta (t := false) (c.inner _ s H C cl fp) takes0 h13) (fold_ok h2) (fun env => fold_ok h10) (all_in h6) (all_in h14) (pr_ok h7) (pr_ok h15)
            · cases h3
          · rename_i hsw
            rw [Bool.not_eq_true] at hsw
            rw [hsw] at sw
            exact s_asgV hN hx (storX c h2) (okE_ok sta (t := false) c so.tk h3) sw
        · cases h
      · rename_i ps
        split at h
        · rename_i ts kt pt
          simp only [Bool.and_eq_true] at h
          obtain ⟨⟨⟨h1, h2⟩, h3⟩, h4⟩ := h
          refine s_asgT (okE_ok sta (t := false) c so.tk h2) (okP_ok c h1) (show swapsWith e (some (.Tuple ts kt pt)) sp.line X.env = pure false from sw_none h4) ?_ rfl
          rw [Bool.or_eq_true] at h3
          rcases h3 with h3 | h3
          · exact sws_nt h3
          · split at h3
            · simp only [Bool.and_eq_true] at h3
              exact sws_fold h3.1.1
            · cases h3
        · cases h
    · cases h
  | B, X, W, .par is as, s, so, h => by
    have c := so.c
    unfold okS at h
    split at h
    · rename_i x px y py kt pt ea eb k2 pt2 sp
      split at h
      · rename_i i j
        simp only [Bool.and_eq_true, Bool.not_eq_true'] at h
        obtain ⟨⟨⟨⟨⟨⟨⟨⟨⟨⟨h1, h2⟩, h3⟩, h4⟩, h5⟩, h6⟩, h7⟩, h8⟩, h9⟩, h10⟩, h11⟩ := h
        have hN : X.N.Nodup := by rw [c.N]; exact c.nd
        have hx : X.env.scope.names.lookup x = some .local := by rw [c.sc]; exact beq_iff_eq.mp h4
        have hy : X.env.scope.names.lookup y = some .local := by rw [c.sc]; exact beq_iff_eq.mp h5
        exact s_par2 c.calm hN (by rw [c.N]; exact of_decide_eq_true h1) (by rw [c.N]; exact of_decide_eq_true h2) (of_decide_eq_true h3) hx hy (okA sta c so.tk h6 h7) (okL_len h6) (sws_par so.kind hx hy h8 h9 h7 h10 h11) rfl
      · cases h
    · cases h
  | B, X, W, .aug i o a, s, so, h => by
    have c := so.c
    unfold okS at h
    split at h
    · simp only [Bool.and_eq_true] at h
      exact s_aug (by rw [c.N]; exact c.nd) (by rw [c.N]; exact of_decide_eq_true h.1.1.1) (storX c h.1.1.2) (okE_ok sta (t := false) c so.tk h.2) (sta.pr.aug c o _ h.1.2)
    · cases h
  | B, X, W, .app i a, s, so, h => by
    have c := so.c
    unfold okS at h
    split at h
    · simp only [Bool.and_eq_true] at h
      obtain ⟨⟨⟨⟨⟨⟨h1, h2⟩, h3⟩, h4⟩, h5⟩, h6⟩, h7⟩ := h
      obtain ⟨n1, n2, _⟩ := nm_ok h3
      have em := of_decide_eq_true h4
      subst em
      exact s_app c.K (by rw [c.N]; exact of_decide_eq_true h1) (by rw [c.sc]; exact vis_ok h2) n1 n2 (okE_ok sta (t := false) c so.tk h5) (noStar_ok h6) h7
    · cases h
  | B, X, W, .ext _ _, s, so, h => by
    unfold okS at h
    cases h
  | B, X, W, .setI _ _ _, s, so, h => by
    unfold okS at h
    cases h
  | B, X, W, .augI _ _ _ _, s, so, h => by
    unfold okS at h
    cases h
  | B, X, W, .upd _ _, s, so, h => by
    unfold okS at h
    cases h
  | B, X, W, .pop _ _ _, s, so, h => by
    unfold okS at h
    cases h
  | B, X, W, .rem _ _, s, so, h => by
    unfold okS at h
    cases h
  | B, X, W, .ifS a b d, s, so, h => by
    unfold okS at h
    split at h
    · simp only [Bool.and_eq_true] at h
      exact s_if (okE_ok sta (t := true) so.c so.tk h.1.1) (okSs_ok sta so h.1.2) (okSs_ok sta so h.2)
    · cases h
  | B, X, W, .forS p it b, s, so, h => by
    unfold okS at h
    split at h
    · simp only [Bool.and_eq_true] at h
      obtain ⟨⟨⟨⟨h1, h2⟩, h3⟩, h4⟩, h5⟩ := h
      exact s_for so.po so.c.calm (okI_ok sta so.c so.tk h1) (okP_ok so.c h2) (okSs_ok sta so h3) (fold_ok h4) (pr_ok h5)
    · cases h
  | B, X, W, .whl a b, s, so, h => by
    unfold okS at h
    split at h
    · simp only [Bool.and_eq_true] at h
      exact s_whl so.po (okE_ok sta (t := true) so.c so.tk h.1) (okSs_ok sta so h.2)
    · cases h
  | B, X, W, .ret a, s, so, h => by
    have c := so.c
    unfold okS at h
    split at h
    · refine s_ret ?_
      by_cases hv : isVar a = true
      · cases a with
        | var i =>
          unfold okE at h
          split at h
          · simp only [Bool.and_eq_true] at h
            obtain ⟨n1, n2, _⟩ := nm_ok h.2
            exact e_srcV (by rw [c.N]; exact of_decide_eq_true h.1.1) (by rw [c.sc]; exact vis_ok h.1.2) n1 n2
          · cases h
        | _ => cases hv
      · exact e_src (okE_ok sta (t := false) c so.tk h) (by cases q : isVar a with
          | true => exact absurd q hv
          | false => rfl)
    · cases h
  | B, X, W, .retN, s, so, h => by
    unfold okS at h
    split at h
    · exact s_retN
    · cases h
  | B, X, W, .raise e as, s, so, h => by
    have c := so.c
    unfold okS at h
    split at h
    · simp only [Bool.and_eq_true] at h
      obtain ⟨⟨⟨h1, h2⟩, h3⟩, h4⟩ := h
      split at h4
      · have ez := of_decide_eq_true h4
        subst ez
        obtain ⟨n1, _, _⟩ := nm_ok h3
        obtain ⟨C, q1, q2, q3, q4, q5, q6, bmB, Bn, n2, n3, q7, q8⟩ := sta.exs e _ (of_decide_eq_true h1)
        exact s_raise c.calm so.tk q7 (by rw [c.K]; exact q8) (by rw [c.mg]; exact q1) (by rw [c.K]; exact q4) (raises_own (by rw [c.K]; exact q5) (by rw [c.K]; exact q6)) (gl_ok c.sc h2) n1 q2 q3
      · cases h4
    · cases h
  | B, X, W, .tryS b hs, s, so, h => by
    have c := so.c
    unfold okS at h
    split at h
    · rw [Bool.and_eq_true] at h
      obtain ⟨l, h1, h2⟩ := okH_ok sta c h.2
      exact s_try so.stk so.fr (by rw [c.N]; exact c.nd) so.tk c.K (fun c j C J a b => (sta.sub c j C J a b).1) (fun W' pn xe tk po => okSs_ok sta (so.tr tk po) h.1) h1 h2
    · cases h
  termination_by structural B X W c => c
theorem okSs_ok (sta : StaOk tb G P mg base k) : ∀ {B : Blk} {X : Cx} {W : WX} {c : CSs} {s : List Stmt}, SOk G P mg base k B X W → okSs tb B c s = true → PSs X s (tSs G fu W c)
  | B, X, W, .nil, s, so, h => by
    unfold okSs at h
    split at h
    · exact ss_nil
    · cases h
  | B, X, W, .cons a as, s, so, h => by
    unfold okSs at h
    split at h
    · rw [Bool.and_eq_true] at h
      exact ss_cons (okS_ok sta so h.1) (okSs_ok sta so h.2)
    · cases h
  termination_by structural B X W c => c
end
end
end Ev

end
section
/-! Ev19: the defs of a program, level by level; a law's end. -/
set_option autoImplicit false
set_option linter.all false
set_option Elab.async false
set_option maxRecDepth 100000
set_option maxHeartbeats 4000000
namespace Ev
open PySem PySem.Spec PyProof.Rows L2

/-- a def of the text -/
structure PF where
  x : Str
  st : Stmt
  N : List Str
  ps : List Str
  fn : Fn
def PF.blk (F : PF) : Blk := { N := F.N, sc := defScope F.st, st := fun _ => true }
def fscB (N P : List Str) (sc : Scope) : Bool := (match sc.kind with | .function => true | _ => false) && !sc.isCoroutine && !sc.isGenerator && decide N.Nodup && decide (N.take P.length = P) &&
  (P.all fun x => match sc.names.lookup x with | some .local => true | some .cell => true | _ => false) && (sc.names.all fun y => match y.2 with | .free => false | _ => true)
theorem fsc_ok {N P : List Str} {sc : Scope} (h : fscB N P sc = true) : FnScope N P sc := by
  unfold fscB at h
  simp only [Bool.and_eq_true, Bool.not_eq_true', decide_eq_true_eq, List.all_eq_true] at h
  obtain ⟨⟨⟨⟨⟨⟨h1, h2⟩, h3⟩, h4⟩, h5⟩, h6⟩, h7⟩ := h
  refine ⟨?_, h2, h3, h4, h5, fun x hx => ?_, fun y hy e => ?_⟩
  · split at h1
    · assumption
    · cases h1
  · have q := h6 x hx
    split at q <;> first | exact .inl (by assumption) | exact .inr (by assumption) | cases q
  · have q := h7 y hy
    rw [e] at q
    cases q
def okF (tb : Tabs) (F : PF) : Bool := fscB F.N F.ps (defScope F.st) && decide (F.fn.np = F.ps.length) && decide (F.fn.nl = F.N.length) && decide (F.ps.length ≤ F.N.length) && okSs tb F.blk F.fn.body (defBody F.st)
/-- what the top has written -/
structure FunAt (K : Frag) (mg : Str → Option Value) (F : PF) (fa : Addr) (fd : FuncData) : Prop where
  f : Fun K F.x F.x F.st fa fd
  b : Binds K fd F.ps []
  g : mg F.x = some (.ref fa)
structure Top (tb : Tabs) (T : Tb) (xt : XT) (K : Frag) (w : World) (mg : Str → Option Value) (fs : List PF) : Prop where
  con : ∀ (i : Nat) (x : Str), tb.con[i]? = some x → ∃ d v u, T.con[i]? = some d ∧ mg x = some u ∧ RelV v u ∧ ∀ H, Rep K w H d v
  exs : ∀ (c : Nat) (x : Str), tb.exs[c]? = some x → ∃ C, mg x = some (.ref C) ∧ xt.addr c = some C ∧ xt.flds c = [] ∧ PySem.W.keepIn K (.ref C) = true ∧ PySem.W.subIn K (.ref C) (.type "BaseException") = some true ∧ PySem.W.typeIn K (.ref C) = some (.type "type") ∧
    ∃ bmB B newId initId, ExcBaseFacts B newId initId bmB ∧ PySem.W.excIn K C bmB newId = true
  sub : ∀ (c j : Nat) (C J : Addr), xt.addr c = some C → xt.addr j = some J → PySem.W.exmOne K (.ref C) (.ref J) = some (T.sub c j) ∧ PySem.W.kitOne K (.ref C) (.ref J) = some (T.sub c j) ∧ ExcC K C
  flds : ∀ c, xt.flds c = []
  blt : ∀ x ∈ bltAll, mg x = none
  hB : T.blt = stdB
  hM : T.mth = stdM
  fns : tb.fns = fs.map fun F => (F.x, F.ps.length)
  funs : ∀ F ∈ fs, ∃ fa fd, FunAt K mg F fa fd
def lg (T : Tb) (xt : XT) (K : Frag) (w : World) (Pg : List Fn) (fu n : Nat) : Lg := ⟨K, w, T, callN T Pg fu n, xt⟩
theorem frame_start {K : Frag} {w : World} {Ob : List Addr} {H : Hp} {N : List Str} {fn : Fn} {ds : List D} {vs : List V} (n : NoT H Ob) (r : Reps K w (Hm H Ob) ds vs) (hl : fn.nl = N.length) (hp : ds.length = fn.np) (hle : fn.np ≤ fn.nl) : StRel K w Ob [] (frameOf fn ds) (L2.start N vs) H where
  len := by
    unfold frameOf L2.start
    simp only [List.length_append, List.length_map, List.length_replicate]
    have := r.length
    omega
  slot := fun i sf d e => by
    unfold frameOf at e
    by_cases hi : i < ds.length
    · rw [List.getElem?_append_left (by simpa using hi), List.getElem?_map] at e
      cases ed : ds[i]? with
      | none => rw [ed] at e; cases e
      | some d' =>
        rw [ed] at e
        cases e
        obtain ⟨v, h1, h2⟩ := r.get ed
        refine ⟨v, ?_, h2⟩
        unfold L2.start
        rw [List.getElem?_append_left (by rw [List.length_map, ← r.length]; exact hi), List.getElem?_map, h1]
        rfl
    · rw [List.getElem?_append_right (by simpa using hi), List.getElem?_replicate] at e
      split at e <;> cases e
  inj := fun i j sf sg d e b h1 h2 n1 n2 _ _ => by
    unfold frameOf at h1
    by_cases hi : i < ds.length
    · rw [List.getElem?_append_left (by simpa using hi), List.getElem?_map] at h1
      cases ed : ds[i]? with
      | none => rw [ed] at h1; cases h1
      | some d' => rw [ed] at h1; cases h1; exact absurd rfl n1
    · rw [List.getElem?_append_right (by simpa using hi), List.getElem?_replicate] at h1
      split at h1 <;> cases h1
  noT := n
  dj := fun a h => by cases h
section
variable {tb : Tabs} {T : Tb} {xt : XT} {P : Program} {w : World} {K : Frag} {mg : Str → Option Value} {base : Heap} {fs : List PF} {fu : Nat}
theorem sta_of (t : Top tb T xt K w mg fs) (n : Nat) (hf : ∀ (f : Nat) (F : PF), fs[f]? = some F → ∀ fa fd, FunAt K mg F fa fd → FnOk P w K mg base (L2.CX P w) n fa fd F.ps (spC (G := lg T xt K w (fs.map (·.fn)) fu n) F.ps.length f)) : StaOk tb (lg T xt K w (fs.map (·.fn)) fu n) P mg base n where
  con := t.con
  exs := t.exs
  sub := t.sub
  flds := t.flds
  blt := t.blt
  pr := prims t.hB t.hM
  fns := fun f x np h => by
    rw [t.fns, List.getElem?_map] at h
    cases e : fs[f]? with
    | none => rw [e] at h; cases h
    | some F =>
      rw [e] at h
      cases h
      obtain ⟨fa, fd, A⟩ := t.funs F (List.mem_of_getElem? e)
      exact ⟨fa, fd, F.ps, A.g, A.f.kp, A.b, hf f F e fa fd A⟩
theorem fn_step (t : Top tb T xt K w mg fs) (n : Nat) (sta : StaOk tb (lg T xt K w (fs.map (·.fn)) fu n) P mg base n) {f : Nat} {F : PF} (hF : fs[f]? = some F) (ok : okF tb F = true) {fa : Addr} {fd : FuncData} (A : FunAt K mg F fa fd) :
    FnOk P w K mg base (L2.CX P w) (n + 1) fa fd F.ps (spC (G := lg T xt K w (fs.map (·.fn)) fu (n + 1)) F.ps.length f) := by
  unfold okF at ok
  simp only [Bool.and_eq_true, decide_eq_true_eq] at ok
  obtain ⟨⟨⟨⟨h1, h2⟩, h3⟩, h4⟩, h5⟩ := ok
  have sc := fsc_ok h1
  refine A.f.okX sc (fun vs H Q E h => h.1) fun cdv A0 outer s H vs Q E hr hsp => ?_
  obtain ⟨hl, Ob, ds, hn, hR, hm⟩ := hsp
  refine ⟨tSs (lg T xt K w (fs.map (·.fn)) fu n) fu (fun cls d _ H => E cls d H) F.fn.body, okSs_ok sta ⟨⟨rfl, rfl, rfl, rfl, rfl, rfl, rfl, sc.nd, rfl, fun _ _ => rfl, hr⟩, takes_of rfl rfl rfl rfl, passes_of rfl, sc.kind, rfl, rfl⟩ h5, Ob, [], frameOf F.fn ds, ?_, ?_⟩
  · exact frame_start hn hR h3 (by rw [h2, ← hl, hR.length]) (by omega)
  · have hm : MPost (callN T (fs.map (·.fn)) fu (n + 1) f ds) (fun r => ∀ v H', Same H H' → Out K w Ob H H' (r.1 == .fr) r.2 v → Q v H') (fun c p => ∀ cls dx H', Same H H' → XRel K w xt H' c p cls dx → E cls dx H') := hm
    rw [callN, List.getElem?_map, hF] at hm
    have hlen : ds.length = F.fn.np := by rw [h2, ← hl, hR.length]
    simp only [Option.map_some] at hm
    rw [if_pos hlen] at hm
    have same : ∀ {Os' : List Addr} {H' : Hp}, Fr [] H Os' H' → Same H H' := fun f a o e => f.same a o (by rw [Hm_at (by simp)]; exact e)
    show SPost _ _ Ob [] H _ (exSs T (callN T (fs.map (·.fn)) fu n) fu (frameOf F.fn ds) F.fn.body)
    cases e : exSs T (callN T (fs.map (·.fn)) fu n) fu (frameOf F.fn ds) F.fn.body with
    | none => rw [e] at hm; exact hm.elim
    | some r =>
      rw [e] at hm
      cases r with
      | nx env => exact fun Os' σ' H' f S => hm .non H' (same f) .non
      | bk env => exact hm.elim
      | ct env => exact hm.elim
      | rt fl d =>
        refine fun Os' v H' f hr => hm v H' (same f) ?_
        unfold RtR at hr
        unfold Out
        cases hfl : (fl == .fr) with
        | true =>
          simp only [hfl, if_true] at hr ⊢
          obtain ⟨b, e1, e2, c⟩ := hr
          exact ⟨b, e1, (f.new b e2).resolve_left (by simp), c⟩
        | false =>
          simp only [hfl] at hr ⊢
          exact hr
      | ex env c p => exact fun Os' σ' H' f S cls dx x => hm cls dx H' (same f) x
theorem fn_zero {fa : Addr} {fd : FuncData} {ps : List Str} {np f : Nat} {Pg : List Fn} : FnOk P w K mg base (L2.CX P w) 0 fa fd ps (spC (G := lg T xt K w Pg fu 0) np f) :=
  ⟨fun vs H Q E h => by obtain ⟨_, _, _, _, _, z⟩ := h; exact z.elim, fun A outer s H args us vs Q E hr e0 hb r h => by obtain ⟨_, _, _, _, _, z⟩ := h; exact z.elim⟩
theorem fns_ok (t : Top tb T xt K w mg fs) (ok : fs.all (okF tb) = true) : ∀ (n : Nat) (f : Nat) (F : PF), fs[f]? = some F → ∀ fa fd, FunAt K mg F fa fd → FnOk P w K mg base (L2.CX P w) n fa fd F.ps (spC (G := lg T xt K w (fs.map (·.fn)) fu n) F.ps.length f)
  | 0, f, F, hF, fa, fd, A => fn_zero
  | n + 1, f, F, hF, fa, fd, A => fn_step t n (sta_of t n (fns_ok t ok n)) hF (List.all_eq_true.mp ok F (List.mem_of_getElem? hF)) A
/-- the law's promise -/
def spLaw (K : Frag) : Sp := fun vs H Q _ => ∃ (a : Addr) (ns : List Int), vs = [.ref a] ∧ SqL K H a (ns.map V.int) ∧ ns.length ≤ 63 ∧ ∀ H', Q (.bl true) H'
theorem reps_ints {H : Hp} : ∀ ns : List Int, Reps K w H (ns.map D.int) (ns.map V.int)
  | [] => .nil
  | n :: ns => .cons (.int n) (reps_ints ns)
theorem hs_hm {H : Hp} {a : Addr} {vs : List V} (h : SqL K H a vs) : SqL K (Hm H []) a vs := by
  have e : Hm H [] = H := by
    funext b
    exact Hm_at (by simp)
  rw [e]; exact h
theorem law_ok (t : Top tb T xt K w mg fs) (ok : fs.all (okF tb) = true) {n f : Nat} {F : PF} (hF : fs[f]? = some F) (hp : F.ps.length = 1) {fa : Addr} {fd : FuncData} (A : FunAt K mg F fa fd)
    (ev : ∀ ns : List Int, ns.length ≤ 63 → ∃ fl, (fl == Fl.fr) = false ∧ callN T (fs.map (·.fn)) fu n f [.set (ns.map D.int)] = some (.ok (fl, .bl true))) : FnOk P w K mg base (L2.CX P w) n fa fd F.ps (spLaw K) := by
  refine (fns_ok (P := P) (base := base) (fu := fu) t ok n f F hF fa fd A).imp fun vs H Q E h => ?_
  obtain ⟨a, ns, rfl, hs, hl, q⟩ := h
  obtain ⟨fl, h1, h2⟩ := ev ns hl
  refine ⟨by rw [hp]; rfl, [], [.set (ns.map D.int)], ((fun a h => nomatch h) : NoT H []), (Reps.cons (Rep.set (hs_hm hs) (reps_ints ns)) Reps.nil : Reps K w (Hm H []) [.set (ns.map D.int)] [V.ref a]), ?_⟩
  show MPost (callN T (fs.map (·.fn)) fu n f [.set (ns.map D.int)]) _ _
  rw [h2]
  intro v H' s o
  unfold Out at o
  simp only [h1] at o
  cases o
  exact q H'
end
end Ev

end
section
/-! Ev20: what the top has written, fact by fact. -/
set_option autoImplicit false
set_option linter.all false
set_option Elab.async false
set_option maxRecDepth 100000
set_option maxHeartbeats 4000000
namespace Ev
open PySem PySem.Spec PyProof.Rows L2
section
variable {K : Frag} {w : World} {mg : Str → Option Value} {h : Heap}
theorem mkFun {F : PF} (x : Str) (st : Stmt) {fa : Addr} {oc : Value} {od an : Option Addr} {osl : Array (Option Value)} {kV doc pm cdv ct : Value} (hx : F.x = x) (hst : F.st = st) (X : K.In h) (G : h.Ns mainGlobals mg) (a : PySem.W.nsIn K mainGlobals x = some (some (.ref fa)))
    (l : K.lookup fa = some ⟨oc, od, .func (PySem.W.fnOf x x (defArgs st) (defBody st) (defScope st) .none kV doc pm an cdv ct), osl⟩) (c : PySem.W.codeIn K cdv x = true) (k : PySem.W.keepIn K (.ref fa) = true)
    (b : ∀ (kV doc pm : Value) (an : Option Addr) (cdv ct : Value) (us : List Value), us.length = F.ps.length → bindArgs (PySem.W.fnOf x x (defArgs st) (defBody st) (defScope st) .none kV doc pm an cdv ct) ⟨us, []⟩ = pure (F.ps.zip us)) : ∃ fa fd, FunAt K mg F fa fd := by
  subst hx
  subst hst
  have f := fun_mk (st := F.st) l c k
  exact ⟨fa, _, f, f.binds b, PySem.W.mg_of X G a⟩
inductive FunL (K : Frag) (mg : Str → Option Value) : List PF → Prop
  | nil : FunL K mg []
  | cons {F : PF} {r : List PF} : (∃ fa fd, FunAt K mg F fa fd) → FunL K mg r → FunL K mg (F :: r)
theorem FunL.all {fs : List PF} (h : FunL K mg fs) : ∀ F ∈ fs, ∃ fa fd, FunAt K mg F fa fd := by
  induction h with
  | nil => intro F hF; cases hF
  | cons a _ ih =>
    intro F hF
    rcases List.mem_cons.mp hF with e | hF
    · rw [e]; exact a
    · exact ih F hF
inductive ConL (K : Frag) (w : World) (mg : Str → Option Value) : List Str → List D → Prop
  | nil : ConL K w mg [] []
  | cons {x : Str} {d : D} {v : V} {u : Value} {xs : List Str} {ds : List D} : mg x = some u → RelV v u → (∀ H, Rep K w H d v) → ConL K w mg xs ds → ConL K w mg (x :: xs) (d :: ds)
theorem ConL.all {xs : List Str} {ds : List D} (h : ConL K w mg xs ds) : ∀ (i : Nat) (x : Str), xs[i]? = some x → ∃ d v u, ds[i]? = some d ∧ mg x = some u ∧ RelV v u ∧ ∀ H, Rep K w H d v := by
  induction h with
  | nil => intro i x e; simp at e
  | cons h1 h2 h3 _ ih =>
    intro i x e
    cases i with
    | zero => simp only [List.getElem?_cons_zero, Option.some.injEq] at e; subst e; exact ⟨_, _, _, rfl, h1, h2, h3⟩
    | succ i => exact ih i x (by simpa using e)
theorem mkStr {x : Str} {z : List Nat} {t : Tok} (X : K.In h) (G : h.Ns mainGlobals mg) (a : PySem.W.nsIn K mainGlobals x = some (some (.str (sv z) t))) : mg x = some (.str (sv z) t) := PySem.W.mg_of X G a
/-- an own error class -/
structure ErrAt (K : Frag) (mg : Str → Option Value) (x : Str) (C : Addr) : Prop where
  g : mg x = some (.ref C)
  kp : PySem.W.keepIn K (.ref C) = true
  ex : PySem.W.subIn K (.ref C) (.type "BaseException") = some true
  ty : PySem.W.typeIn K (.ref C) = some (.type "type")
  me : PySem.W.excIn K C [.type "ValueError", .type "Exception", .type "BaseException", .type "object"] "ValueError.__new__" = true
  ec : ExcC K C
theorem mkErr {x : Str} {C : Addr} (X : K.In h) (G : h.Ns mainGlobals mg) (a : PySem.W.nsIn K mainGlobals x = some (some (.ref C))) (kp : PySem.W.keepIn K (.ref C) = true) (ex : PySem.W.subIn K (.ref C) (.type "BaseException") = some true) (ty : PySem.W.typeIn K (.ref C) = some (.type "type"))
    (mk : PySem.W.excIn K C [.type "ValueError", .type "Exception", .type "BaseException", .type "object"] "ValueError.__new__" = true)
    (hg : PySem.W.findIn K (.ref C) "__getattribute__" = some (some (.builtin "BaseException.__getattribute__"))) (hk : PySem.W.findIn K (.ref C) "__getattr__" = some none) (hd : PySem.W.hasDictIn K C = true) (ha : PySem.W.findIn K (.ref C) "__class__" = some (some (.builtin "object.__class__")))
    (hn : PySem.W.specialIn K (.builtin "object.__class__") "__get__" = some (some (.builtin "getset_descriptor.__get__"))) (ht : PySem.W.takesIn K (.builtin "object.__class__") = some true) (hm : PySem.W.mroIn K C (.type "object") = some true) : ErrAt K mg x C :=
  ⟨PySem.W.mg_of X G a, kp, ex, ty, mk, ⟨hg, hk, ex, hd, ha, hn, ht, hm⟩⟩
inductive ErrL (K : Frag) (mg : Str → Option Value) : List Str → List Addr → Prop
  | nil : ErrL K mg [] []
  | cons {x : Str} {C : Addr} {xs : List Str} {Cs : List Addr} : ErrAt K mg x C → ErrL K mg xs Cs → ErrL K mg (x :: xs) (C :: Cs)
theorem ErrL.get {xs : List Str} {Cs : List Addr} (h : ErrL K mg xs Cs) : ∀ (i : Nat) (x : Str), xs[i]? = some x → ∃ C, Cs[i]? = some C ∧ ErrAt K mg x C := by
  induction h with
  | nil => intro i x e; simp at e
  | cons a _ ih =>
    intro i x e
    cases i with
    | zero => simp only [List.getElem?_cons_zero, Option.some.injEq] at e; subst e; exact ⟨_, rfl, a⟩
    | succ i => exact ih i x (by simpa using e)
theorem ErrL.at {xs : List Str} {Cs : List Addr} (h : ErrL K mg xs Cs) : ∀ (i : Nat) (C : Addr), Cs[i]? = some C → ∃ x, ErrAt K mg x C := by
  induction h with
  | nil => intro i x e; simp at e
  | cons a _ ih =>
    intro i x e
    cases i with
    | zero => simp only [List.getElem?_cons_zero, Option.some.injEq] at e; subst e; exact ⟨_, a⟩
    | succ i => exact ih i x (by simpa using e)
/-- which class stands below which -/
inductive SubJ (K : Frag) (f : Nat → Nat → Bool) (c : Nat) (C : Addr) : Nat → List Addr → Prop
  | nil {j : Nat} : SubJ K f c C j []
  | cons {j : Nat} {J : Addr} {Js : List Addr} : PySem.W.subIn K (.ref C) (.ref J) = some (f c j) → SubJ K f c C (j + 1) Js → SubJ K f c C j (J :: Js)
inductive SubC (K : Frag) (f : Nat → Nat → Bool) (all : List Addr) : Nat → List Addr → Prop
  | nil {c : Nat} : SubC K f all c []
  | cons {c : Nat} {C : Addr} {Cs : List Addr} : SubJ K f c C 0 all → SubC K f all (c + 1) Cs → SubC K f all c (C :: Cs)
theorem SubJ.get {f : Nat → Nat → Bool} {c : Nat} {C : Addr} {j : Nat} {Js : List Addr} (h : SubJ K f c C j Js) : ∀ (i : Nat) (J : Addr), Js[i]? = some J → PySem.W.subIn K (.ref C) (.ref J) = some (f c (j + i)) := by
  induction h with
  | nil => intro i x e; simp at e
  | cons a _ ih =>
    intro i x e
    cases i with
    | zero => simp only [List.getElem?_cons_zero, Option.some.injEq] at e; subst e; exact a
    | succ i =>
      rw [ih i x (by simpa using e)]
      congr 2
      omega
theorem SubC.get {f : Nat → Nat → Bool} {all : List Addr} {c : Nat} {Cs : List Addr} (h : SubC K f all c Cs) : ∀ (i : Nat) (C : Addr), Cs[i]? = some C → SubJ K f (c + i) C 0 all := by
  induction h with
  | nil => intro i x e; simp at e
  | cons a _ ih =>
    intro i x e
    cases i with
    | zero => simp only [List.getElem?_cons_zero, Option.some.injEq] at e; subst e; exact a
    | succ i =>
      have := ih i x (by simpa using e)
      rename_i c0 _ _ _
      rw [show c0 + 1 + i = c0 + (i + 1) from by omega] at this
      exact this
theorem cls_some {C : Addr} (h : PySem.W.hasDictIn K C = true) : (PySem.W.clsIn K C).isSome = true := by
  obtain ⟨cd, e, _⟩ := PySem.W.any_some h
  rw [e]; rfl
theorem kit_ref {C J : Addr} {b : Bool} (hd : PySem.W.hasDictIn K J = true) (ty : PySem.W.typeIn K (.ref J) = some (.type "type")) (s : PySem.W.subIn K (.ref C) (.ref J) = some b) (hr : C = J → b = true) : PySem.W.kitOne K (.ref C) (.ref J) = some b := by
  unfold PySem.W.kitOne
  by_cases e : C = J
  · subst e
    rw [if_pos (beq_self_eq_true _), hr rfl]
  · rw [if_neg (fun z => e (Value.ref.inj (beq_iff_eq.mp z)))]
    show (if ((PySem.W.clsIn K J).isSome && PySem.W.typeIn K (.ref J) == some (.type "type")) = true then _ else _) = _
    rw [if_pos (by rw [cls_some hd, ty]; rfl)]
    exact s
theorem top_mk {ts : Tabs} {T : Tb} {fs : List PF} {Cs : List Addr} (hB : T.blt = stdB) (hM : T.mth = stdM) (hf : ts.fns = fs.map fun F => (F.x, F.ps.length)) (nd : Cs.Nodup) (hrefl : ∀ c, c < Cs.length → T.sub c c = true)
    (con : ConL K w mg ts.con T.con) (err : ErrL K mg ts.exs Cs) (sub : SubC K T.sub Cs 0 Cs) (blt : ∀ x ∈ bltAll, mg x = none) (fun_ : FunL K mg fs) : Top ts T ⟨fun c => Cs[c]?, fun _ => []⟩ K w mg fs where
  con := con.all
  exs := fun c x e => by
    obtain ⟨C, h1, A⟩ := err.get c x e
    exact ⟨C, A.g, h1, rfl, A.kp, A.ex, A.ty, _, _, _, _, PySem.F.excBase_ValueError, A.me⟩
  sub := fun c j C J hc hj => by
    obtain ⟨_, A⟩ := err.at c C hc
    obtain ⟨_, A'⟩ := err.at j J hj
    have s := (sub.get c C hc).get j J hj
    rw [Nat.zero_add, Nat.zero_add] at s
    refine ⟨PySem.W.exm_ref A'.ex A'.ec.hd A'.ty s, kit_ref A'.ec.hd A'.ty s fun e => ?_, A.ec⟩
    subst e
    have hcl : c < Cs.length := (List.getElem?_eq_some_iff.mp hc).1
    have hjl : j < Cs.length := (List.getElem?_eq_some_iff.mp hj).1
    have : c = j := by
      have e1 := (List.getElem?_eq_some_iff.mp hc).2
      have e2 := (List.getElem?_eq_some_iff.mp hj).2
      exact (List.getElem_inj nd).mp (e1.trans e2.symm)
    subst this
    exact hrefl c hcl
  flds := fun _ => rfl
  blt := blt
  hB := hB
  hM := hM
  fns := hf
  funs := fun_.all
end
end Ev
namespace Ev
open PySem PySem.Spec PyProof.Rows L2
theorem law_end {ts : Tabs} {T : Tb} {xt : XT} {P : Program} {w : World} {K : Frag} {mg : Str → Option Value} {fs : List PF} {fu n f : Nat} {F : PF} {fa : Addr} (t : Top ts T xt K w mg fs) (ok : fs.all (okF ts) = true) (hF : fs[f]? = some F) (hp : F.ps = [("script" : Str)]) (hmg : mg F.x = some (.ref fa))
    (hb : ∀ (kV doc pm : Value) (an : Option Addr) (cdv ct : Value) (u : Value), bindArgs (PySem.W.fnOf F.x F.x (defArgs F.st) (defBody F.st) (defScope F.st) .none kV doc pm an cdv ct) ⟨[u], []⟩ = pure [(("script" : Str), u)])
    (ev : ∀ ns : List Int, ns.length ≤ 63 → ∃ fl, (fl == Fl.fr) = false ∧ callN T (fs.map (·.fn)) fu n f [.set (ns.map D.int)] = some (.ok (fl, .bl true))) :
    ∃ fd : FuncData, (∀ (s : Shared) (u : Value), BindsTo s fd ⟨[u], []⟩ [("script", u)]) ∧ ∀ base : Heap, K.In base → base.Ns mainGlobals mg → FnOk P w K mg base (L2.CX P w) n fa fd ["script"] (spLaw K) := by
  obtain ⟨fa', fd, A⟩ := t.funs F (List.mem_of_getElem? hF)
  have e : fa' = fa := by
    have := A.g.symm.trans hmg
    cases this
    rfl
  subst e
  refine ⟨fd, fun s u => ?_, fun base _ _ => ?_⟩
  · obtain ⟨oc, od, kV, doc, pm, an, cdv, ct, osl, rfl, _, _⟩ := A.f.ex
    exact .of_eq (hb kV doc pm an cdv ct u)
  · have := law_ok (P := P) (base := base) (fu := fu) t ok hF (by rw [hp]; rfl) A ev
    rw [hp] at this
    exact this
theorem walkE {l : PySem.W.OpenLaw} {q : Program} {loose : List Str} {XP : (Str → Option Value) → Heap → Prop} {YP : World → Heap → Prop} {d : DefRec} {K : Params → PySem.W.Frag} {n : Nat} (hn : l.most = some 63) (hdf : d.params.defaults = []) (hr : Room n callerA)
    (hY : ∀ (w : World) (h : Heap), YP w h → (K w.params).In h)
    (F : ∀ (w : World) (mg : Str → Option Value) (fa : Addr) (h : Heap), (K w.params).In h → h.Ns mainGlobals mg → mg d.name = some (.ref fa) →
      ∃ fd : FuncData, (∀ (s : Shared) (u : Value), BindsTo s fd ⟨[u], []⟩ [("script", u)]) ∧ ∀ base : Heap, (K w.params).In base → base.Ns mainGlobals mg → FnOk l.prog w (K w.params) mg base (L2.CX l.prog w) n fa fd ["script"] (spLaw (K w.params))) :
    PySem.W.WalkO q loose XP YP l.row.toRowW d [] (fun f vs => PySem.call f vs) :=
  L2.walk_of (n := 63) (k := n) (x := "script") (CX := fun w => L2.CX l.prog w) (sp := fun w => spLaw (K w.params)) hn (by decide) hdf hr hY F (fun _ _ a ns hl _ hS => ⟨a, ns, rfl, hS, hl, fun _ => rfl⟩) fun _ _ _ _ _ z => by
    obtain ⟨_, _, _, _, _, _, _, _, _, _, _, _, x⟩ := z
    exact x
end Ev

end
section
/-! Ev21: plain laws of the evaluator; the laws' own draws. -/
set_option autoImplicit false
set_option linter.all false
set_option Elab.async false
set_option maxRecDepth 100000
set_option maxHeartbeats 4000000
namespace Ev
theorem lenLe_of {α : Type} : ∀ {l : List α} {n : Nat}, l.length ≤ n → lenLe l n = true
  | [], _, _ => rfl
  | _ :: _, 0, h => by simp at h
  | _ :: r, n + 1, h => lenLe_of (l := r) (Nat.le_of_succ_le_succ h)
theorem loop_inv {f : Env → D → SM} (I : List D → Env → Prop) (h : ∀ d r e, I (d :: r) e → ∃ e', f e d = some (.nx e') ∧ I r e') : ∀ (ds : List D) (e : Env), I ds e → ∃ e', loop f ds e = some (.nx e') ∧ I [] e'
  | [], e, i => ⟨e, rfl, i⟩
  | d :: r, e, i => by
    obtain ⟨e1, h1, h2⟩ := h d r e i
    obtain ⟨e2, h3, h4⟩ := loop_inv I h r e1 h2
    exact ⟨e2, by rw [loop, h1]; exact h3, h4⟩
@[simp] theorem seqS_nx (e : Env) (k : Env → SM) : seqS (some (.nx e)) k = k e := rfl
@[simp] theorem seqS_rt (f : Fl) (d : D) (k : Env → SM) : seqS (some (.rt f d)) k = some (.rt f d) := rfl
@[simp] theorem seqS_ex (e : Env) (c : Nat) (p : List D) (k : Env → SM) : seqS (some (.ex e c p)) k = some (.ex e c p) := rfl
theorem seqS_id (r : SM) : seqS r (fun e => some (.nx e)) = r := by
  cases r with
  | none => rfl
  | some r => cases r <;> rfl
@[simp] theorem xp_ok {α : Type} (env : Env) (a : α) (k : α → SM) : xp env (some (.ok a)) k = k a := rfl
@[simp] theorem xp_ex {α : Type} (env : Env) (c : Nat) (p : List D) (k : α → SM) : xp env (some (.ex c p) : M α) k = some (.ex env c p) := rfl
theorem line_int : (line : Int) = 16777216 := by simp [line]
theorem evRng_nat {n : Nat} (hn : n ≤ 16777216) : evRng [.int n] = some (rangeD 0 n) := by
  have h1 : in62 (n : Int) = true := by
    unfold in62
    simp only [Bool.and_eq_true, decide_eq_true_eq]
    omega
  have h2 : (n : Int) ≤ (line : Int) := by rw [line_int]; omega
  show (if (in62 (n : Int) && decide ((n : Int) ≤ (line : Int))) = true then some (rangeD 0 (n : Int).toNat) else none) = _
  rw [h1, decide_eq_true h2, Int.toNat_natCast]
  rfl
def bodyF (T : Tb) (cl : Call) (fu : Nat) (p : Pat) (b : CSs) (e : Env) (d : D) : SM := match bindP e p d with
  | some e1 => exSs T cl fu e1 b
  | none => none
theorem exS_for {T : Tb} {cl : Call} {fu : Nat} {env : Env} {p : Pat} {it : CI} {b : CSs} : exS T cl fu env (.forS p it b) = xp (froz env (ciVars it)) (evI T cl (froz env (ciVars it)) it) fun ds => if ds.1 then loop (bodyF T cl fu p b) ds.2 (froz env (ciVars it)) else none := by
  rw [exS]; rfl
theorem evI_rng {T : Tb} {cl : Call} {env : Env} {as : CEs} {xs : List (Fl × D)} {ds : List D} (h : evEs T cl env as = some (.ok xs)) (hr : evRng (Ev.vals xs) = some ds) : evI T cl env (.rng as) = some (.ok (true, ds)) := by
  rw [evI, h, M.bind_ok, hr]
  rfl
theorem evEs_one {T : Tb} {cl : Call} {env : Env} {e : CE} {x : Fl × D} (h : evE T cl env e = some (.ok x)) : evEs T cl env (.cons e .nil) = some (.ok [x]) := by
  rw [evEs, h, M.bind_ok, evEs]
  rfl
theorem hi {T : Tb} {cl : Call} {e : CE} {env : Env} {n : Nat} (h : evE T cl env e = some (.ok (.st, .int n))) (hn : n ≤ 16777216) :  evI T cl env (.rng (.cons e .nil)) = some (.ok (true, rangeD 0 n)) := evI_rng (evEs_one h) (evRng_nat hn)
theorem for_rng {T : Tb} {cl : Call} {fu : Nat} {e : CE} {p : Pat} {b : CSs} {env : Env} {n : Nat} (h : evE T cl env e = some (.ok (.st, .int n))) (hn : n ≤ 16777216) : exS T cl fu env (.forS p (.rng (.cons e .nil)) b) = loop (bodyF T cl fu p b) (rangeD 0 n) env := by
  rw [exS_for]
  simp only [ciVars, froz]
  rw [hi h hn]
  simp only [xp, if_true]
theorem cut63 (ns : List Int) (h : ns.length ≤ 63) : cutL (ns.map D.int) none (some 63) = ns.map D.int := by
  have e : min (63 : Int).toNat (ns.map D.int).length = (ns.map D.int).length := by simp; omega
  unfold cutL
  simp only [clip]
  rw [if_neg (by decide), e]
  simp
  exact List.take_of_length_le (by simp)
def dInner : CSs := (.cons (.ifS (.cmp .gt (.var 6) (.con (.int 0))) (.cons (.app 2 (.bin .mod (.blt 10 (.cons (.var 6) .nil)) (.con (.int 1009)))) (.cons (.asg (.var 6) (.bin .fdiv (.var 6) (.con (.int 1009)))) .nil)) .nil) .nil)
def dThen : CSs := (.cons (.forS (.var 5) (.rng (.cons (.con (.int 60)) .nil)) dInner) .nil)
def dElse : CSs := (.cons (.app 2 (.bin .mod (.bin .fdiv (.blt 10 (.cons (.bin .add (.bin .mul (.var 3) (.con (.int 16807))) (.con (.int 5))) .nil)) (.con (.int 3))) (.con (.int 65521)))) .nil)
def dBody : CSs := (.cons (.asg (.var 6) (.blt 9 (.cons (.var 4) .nil)))
  (.cons (.asg (.var 3) (.bin .mod (.blt 10 (.cons (.bin .add (.bin .add (.bin .mul (.var 3) (.con (.int 48271))) (.var 6)) (.con (.int 11))) .nil)) (.con (.int 2147483647))))
  (.cons (.ifS (.cmp .ge (.var 6) (.bin .pow (.con (.int 10)) (.con (.int 18)))) dThen dElse) .nil)))
def dMore : CSs := (.cons (.ifS (.cmp .lt (.blt 0 (.cons (.var 2) .nil)) (.var 1)) (.cons (.asg (.var 3) (.bin .mod (.blt 10 (.cons (.bin .add (.bin .add (.bin .mul (.var 3) (.con (.int 69621))) (.var 5)) (.con (.int 1))) .nil)) (.con (.int 2147483647)))) (.cons (.app 2 (.bin .mod (.bin .fdiv (.blt 10 (.cons (.var 3) .nil)) (.con (.int 7))) (.con (.int 65521)))) .nil)) .nil) .nil)
/-- the text of _law_draws, the same in every law -/
def bDraws : CSs := (.cons (.asg (.var 2) (.lst .nil)) (.cons (.asg (.var 3) (.con (.int 7)))
  (.cons (.forS (.var 4) (.seq (.slc (.var 0) .nil (.cons (.con (.int 63)) .nil))) dBody)
  (.cons (.forS (.var 5) (.rng (.cons (.var 1) .nil)) dMore)
  (.cons (.ret (.slc (.var 2) .nil (.cons (.var 1) .nil))) .nil)))))
section
variable {T : Tb} {cl : Call} {fu : Nat} (hB : T.blt = stdB)
include hB
theorem b_abs_at : T.blt[9]? = some pAbs := by rw [hB]; rfl
theorem b_int_at : T.blt[10]? = some pInt := by rw [hB]; rfl
theorem b_len_at : T.blt[0]? = some pLen := by rw [hB]; rfl
/-- the frame while draws are made -/
def dEnv (s0 : Sf × D) (m : Int) (xs : List Int) (seed : Int) (c k n : Slot) : Env := [some s0, some (.fz, .int m), some (.ow, .lst (xs.map D.int)), some (.fz, .int seed), c, k, n]
theorem dInner_ok (s0 : Sf × D) (m : Int) (xs : List Int) (seed : Int) (c k : Slot) (n : Int) (hx : xs.length + 1 ≤ line) : ∃ xs' n', exSs T cl fu (dEnv s0 m xs seed c k (some (.fz, .int n))) dInner = some (.nx (dEnv s0 m xs' seed c k (some (.fz, .int n')))) ∧ xs'.length ≤ xs.length + 1 ∧ ((∀ x ∈ xs, 0 ≤ x) → ∀ x ∈ xs', 0 ≤ x) := by
  by_cases h : 0 < n
  · refine ⟨xs ++ [n.fmod 1009], n.fdiv 1009, ?_, by simp, fun hx x hm => ?_⟩
    · have hl : lenLe (xs.map D.int ++ [D.int (n.fmod 1009)]) line = true := lenLe_of (by simpa using hx)
      have hs : small64 1009 = true := by decide
      simp [dInner, exSs, exS, seqS_id, evE, evEs, getS, dEnv, evCmp, truth, h, ownAt, b_int_at hB, pInt, Ev.vals, fls, anyUn, outFl, evBin, Fl.still, hl, froz, varOf, nxM, stP, varP, isBox, bindP, List.set, okM, M.bind, Fl.isUn]
    · rcases List.mem_append.mp hm with hm | hm
      · exact hx x hm
      · rw [List.mem_singleton.mp hm]
        exact Int.fmod_nonneg_of_pos _ (by decide)
  · refine ⟨xs, n, ?_, by omega, fun hx => hx⟩
    simp [dInner, exSs, exS, seqS_id, evE, evEs, getS, dEnv, evCmp, truth, h, okM, M.bind]
theorem dThen_ok (s0 : Sf × D) (m : Int) (xs : List Int) (seed : Int) (c k : Slot) (n : Int) (hx : xs.length + 60 ≤ line) : ∃ xs' k' n', exSs T cl fu (dEnv s0 m xs seed c k (some (.fz, .int n))) dThen = some (.nx (dEnv s0 m xs' seed c k' (some (.fz, .int n')))) ∧ xs'.length ≤ xs.length + 60 ∧ ((∀ x ∈ xs, 0 ≤ x) → ∀ x ∈ xs', 0 ≤ x) := by
  have key := loop_inv (f := bodyF T cl fu (.var 5) dInner)
    (fun r e => ∃ xs' k' n', e = dEnv s0 m xs' seed c k' (some (.fz, .int n')) ∧ xs'.length + r.length ≤ xs.length + 60 ∧ ((∀ x ∈ xs, 0 ≤ x) → ∀ x ∈ xs', 0 ≤ x))
    (fun d r e ⟨xs', k', n', he, hl, hp⟩ => by
      subst he
      simp only [List.length_cons] at hl
      obtain ⟨ys, n2, h1, h2, h3⟩ := dInner_ok (cl := cl) (fu := fu) hB s0 m xs' seed c (some (.fz, d)) n' (by omega)
      exact ⟨_, h1, ys, _, n2, rfl, by omega, fun z => h3 (hp z)⟩) (rangeD 0 60) (dEnv s0 m xs seed c k (some (.fz, .int n))) ⟨xs, k, n, rfl, by rw [rangeD_len]; omega, fun z => z⟩
  obtain ⟨e', h1, xs', k', n', rfl, h2, h3⟩ := key
  refine ⟨xs', k', n', ?_, by simpa using h2, h3⟩
  have hf := for_rng (T := T) (cl := cl) (fu := fu) (p := .var 5) (b := dInner) (env := dEnv s0 m xs seed c k (some (.fz, .int n))) (e := .con (.int 60)) (n := 60) (by simp [evE, okM]) (by decide)
  rw [dThen, exSs, hf, h1]
  simp [exSs]
theorem dBody_ok (s0 : Sf × D) (m : Int) (xs : List Int) (seed : Int) (z : Int) (k n : Slot) (hx : xs.length + 60 ≤ line) : ∃ xs' seed' k' n', exSs T cl fu (dEnv s0 m xs seed (some (.fz, .int z)) k n) dBody = some (.nx (dEnv s0 m xs' seed' (some (.fz, .int z)) k' n')) ∧ xs'.length ≤ xs.length + 60 ∧ ((∀ x ∈ xs, 0 ≤ x) → ∀ x ∈ xs', 0 ≤ x) := by
  have s1 : small64 48271 = true := by decide
  have s2 : small64 16807 = true := by decide
  have e18 : evBin .pow (.int 10) (.int 18) = some (false, .int 1000000000000000000) := by simp [evBin]
  by_cases h : (1000000000000000000 : Int) ≤ (if z < 0 then -z else z)
  · obtain ⟨ys, k', n', h1, h2, h3⟩ := dThen_ok (cl := cl) (fu := fu) hB s0 m xs ((seed * 48271 + (if z < 0 then -z else z) + 11).fmod 2147483647) (some (.fz, .int z)) k (if z < 0 then -z else z) hx
    refine ⟨ys, (seed * 48271 + (if z < 0 then -z else z) + 11).fmod 2147483647, k', some (.fz, .int n'), ?_, h2, h3⟩
    rw [← h1]
    simp [dBody, exSs, exS, seqS_id, evE, evEs, getS, dEnv, evCmp, truth, h, b_abs_at hB, b_int_at hB, pAbs, pInt, Ev.vals, fls, anyUn, outFl, evBin, Fl.still, froz, varOf, nxM, stP, varP, isBox, bindP, List.set, okM, M.bind, Fl.isUn, s1, e18]
  · have hl : lenLe (xs.map D.int ++ [D.int ((((seed * 48271 + (if z < 0 then -z else z) + 11).fmod 2147483647 * 16807 + 5).fdiv 3).fmod 65521)]) line = true := lenLe_of (by simp; omega)
    refine ⟨xs ++ [(((seed * 48271 + (if z < 0 then -z else z) + 11).fmod 2147483647 * 16807 + 5).fdiv 3).fmod 65521], (seed * 48271 + (if z < 0 then -z else z) + 11).fmod 2147483647, k, some (.fz, .int (if z < 0 then -z else z)), ?_, by simp, fun hx x hm => ?_⟩
    · simp [dBody, dElse, exSs, exS, seqS_id, evE, evEs, getS, dEnv, evCmp, truth, h, b_abs_at hB, b_int_at hB, pAbs, pInt, Ev.vals, fls, anyUn, outFl, evBin, Fl.still, froz, varOf, nxM, stP, varP, isBox, bindP, List.set, okM, M.bind, Fl.isUn, s1, s2, e18, ownAt, hl]
    · rcases List.mem_append.mp hm with hm | hm
      · exact hx x hm
      · rw [List.mem_singleton.mp hm]
        exact Int.fmod_nonneg_of_pos _ (by decide)
theorem dMore_ok (s0 : Sf × D) (m : Int) (xs : List Int) (seed : Int) (c n : Slot) (i : Int) (hm : m ≤ 1000000) (hx : (xs.length : Int) ≤ 10000000) : ∃ xs' seed', exSs T cl fu (dEnv s0 m xs seed c (some (.fz, .int i)) n) dMore = some (.nx (dEnv s0 m xs' seed' c (some (.fz, .int i)) n)) ∧ (if (xs.length : Int) < m then xs'.length = xs.length + 1 else xs' = xs) ∧ ((∀ x ∈ xs, 0 ≤ x) → ∀ x ∈ xs', 0 ≤ x) := by
  have s1 : small64 69621 = true := by decide
  by_cases h : (xs.length : Int) < m
  · have hl : lenLe (xs.map D.int ++ [D.int ((((seed * 69621 + i + 1).fmod 2147483647).fdiv 7).fmod 65521)]) line = true := lenLe_of (by simp [line]; omega)
    refine ⟨xs ++ [(((seed * 69621 + i + 1).fmod 2147483647).fdiv 7).fmod 65521], (seed * 69621 + i + 1).fmod 2147483647, ?_, by simp [h], fun hx x hm => ?_⟩
    · simp [dMore, exSs, exS, seqS_id, evE, evEs, getS, dEnv, evCmp, truth, h, b_len_at hB, b_int_at hB, pLen, lenD, pInt, Ev.vals, fls, anyUn, outFl, evBin, Fl.still, froz, varOf, nxM, stP, varP, isBox, bindP, List.set, okM, M.bind, Fl.isUn, s1, ownAt, hl]
    · rcases List.mem_append.mp hm with hm | hm
      · exact hx x hm
      · rw [List.mem_singleton.mp hm]
        exact Int.fmod_nonneg_of_pos _ (by decide)
  · refine ⟨xs, seed, ?_, by simp [h], fun hx => hx⟩
    simp [dMore, exSs, exS, seqS_id, evE, evEs, getS, dEnv, evCmp, truth, h, b_len_at hB, pLen, lenD, Ev.vals, fls, anyUn, outFl, okM, M.bind, Fl.isUn]
theorem draws_ok (ns : List Int) (hn : ns.length ≤ 63) (m : Nat) (hm : m ≤ 100) : ∃ ds : List Int, exSs T cl fu [some (.fz, .set (ns.map D.int)), some (.fz, .int m), none, none, none, none, none] bDraws = some (.rt .fr (.lst (ds.map D.int))) ∧ ds.length = m ∧ ∀ d ∈ ds, 0 ≤ d := by
  -- the script's own draws
  obtain ⟨e1, h1, xs, seed, c, k, n, rfl, hl, hp⟩ := loop_inv (f := bodyF T cl fu (.var 4) dBody)
    (fun r e => ∃ xs seed c k n, e = dEnv (.fz, .set (ns.map D.int)) m xs seed c k n ∧ xs.length + 60 * r.length ≤ 60 * 63 ∧ (∀ x ∈ xs, 0 ≤ x) ∧ ∀ d ∈ r, ∃ z, d = .int z)
    (fun d r e ⟨xs, seed, c, k, n, he, hl, hp, hd⟩ => by
      subst he
      obtain ⟨z, rfl⟩ := hd d List.mem_cons_self
      simp only [List.length_cons] at hl
      obtain ⟨ys, s2, k2, n2, h1, h2, h3⟩ := dBody_ok (cl := cl) (fu := fu) hB (.fz, .set (ns.map D.int)) m xs seed z k n (by simp [line]; omega)
      exact ⟨_, h1, ys, s2, _, k2, n2, rfl, by omega, h3 hp, fun d hd' => hd d (List.mem_cons_of_mem _ hd')⟩) (ns.map D.int) (dEnv (.fz, .set (ns.map D.int)) m [] 7 none none none)
    ⟨[], 7, none, none, none, rfl, by simp; omega, by simp, fun d hd => by obtain ⟨z, _, rfl⟩ := List.mem_map.mp hd; exact ⟨z, rfl⟩⟩
  -- filled up
  obtain ⟨e2, g1, ys, seed2, k2, rfl, gl, gp⟩ := loop_inv (f := bodyF T cl fu (.var 5) dMore)
    (fun r e => ∃ ys seed k, e = dEnv (.fz, .set (ns.map D.int)) m ys seed c k n ∧ (m ≤ ys.length + r.length ∧ ys.length ≤ 4000) ∧ (∀ x ∈ ys, 0 ≤ x) ∧ ∀ d ∈ r, ∃ z, d = .int z)
    (fun d r e ⟨ys, seed, k, he, hl, hp, hd⟩ => by
      subst he
      obtain ⟨z, rfl⟩ := hd d List.mem_cons_self
      simp only [List.length_cons] at hl
      obtain ⟨zs, s2, h1, h2, h3⟩ := dMore_ok (cl := cl) (fu := fu) hB (.fz, .set (ns.map D.int)) m ys seed c n z (by omega) (by omega)
      refine ⟨_, h1, zs, s2, _, rfl, ?_, h3 hp, fun d hd' => hd d (List.mem_cons_of_mem _ hd')⟩
      split at h2
      · omega
      · subst h2; omega) (rangeD 0 m) (dEnv (.fz, .set (ns.map D.int)) m xs seed c k n)
    ⟨xs, seed, k, rfl, ⟨by rw [rangeD_len]; omega, by simp at hl; omega⟩, hp.1, fun d hd => by
      obtain ⟨i, hi⟩ := List.getElem?_of_mem hd
      have : i < m := by have := (List.getElem?_eq_some_iff.mp hi).1; rwa [rangeD_len] at this
      rw [rangeD_get m 0 i this] at hi
      cases hi
      exact ⟨_, rfl⟩⟩
  refine ⟨ys.take m, ?_, by simp only [List.length_nil] at gl; rw [List.length_take]; omega, fun d hd => gp.1 d (List.mem_of_mem_take hd)⟩
  have hs : evI T cl (dEnv (.fz, .set (ns.map D.int)) m [] 7 none none none) (.seq (.slc (.var 0) .nil (.cons (.con (.int 63)) .nil))) = some (.ok (true, ns.map D.int)) := by
    simp [evI, evE, evO, getS, dEnv, evSlc, cut63 ns hn, outFl, itemsOf, walkable, solid, isVar, Fl.isUn, okM, M.bind, liftM]
  have f1 : exS T cl fu (dEnv (.fz, .set (ns.map D.int)) m [] 7 none none none) (.forS (.var 4) (.seq (.slc (.var 0) .nil (.cons (.con (.int 63)) .nil))) dBody) = some (.nx (dEnv (.fz, .set (ns.map D.int)) m xs seed c k n)) := by
    rw [exS_for]
    simp only [ciVars, froz]
    rw [hs, xp_ok, if_pos rfl, h1]
  have f2 : exS T cl fu (dEnv (.fz, .set (ns.map D.int)) m xs seed c k n) (.forS (.var 5) (.rng (.cons (.var 1) .nil)) dMore) = some (.nx (dEnv (.fz, .set (ns.map D.int)) m ys seed2 c k2 n)) := by
    rw [for_rng (n := m) (by simp [evE, getS, dEnv, okM]) (by omega), g1]
  have ec : cutL (ys.map D.int) none (some (m : Int)) = (ys.take m).map D.int := by
    unfold cutL
    simp only [clip]
    rw [if_neg (by omega), Int.toNat_natCast, List.map_take]
    simp only [List.length_nil] at gl
    have : min m (ys.map D.int).length = m := by simp; omega
    rw [this]
    simp
  have f0 : ∀ r, exSs T cl fu [some (.fz, .set (ns.map D.int)), some (.fz, .int m), none, none, none, none, none] (.cons (.asg (.var 2) (.lst .nil)) (.cons (.asg (.var 3) (.con (.int 7))) r)) = exSs T cl fu (dEnv (.fz, .set (ns.map D.int)) m [] 7 none none none) r := fun r => by
    simp [exSs, exS, evE, evEs, froz, varOf, stills, Ev.vals, outFl, nxM, stP, varP, isBox, Fl.still, bindP, List.set, okM, M.bind, dEnv]
  rw [bDraws, f0, exSs, f1, seqS_nx, exSs, f2, seqS_nx]
  simp [exSs, exS, evE, evO, getS, dEnv, evSlc, ec, outFl, Fl.isUn, okM, M.bind]
end
end Ev

end
section
set_option autoImplicit false
set_option linter.all false
set_option maxRecDepth 100000
set_option maxHeartbeats 4000000
namespace K24
open Ev
def b0 : CSs := (.cons (.ret (.and (.isi (.var 0) .int) (.cons (.not (.isi (.var 0) .bool)) (.cons (.chain .le .le (.var 1) (.var 0) (.var 2)) .nil))))
 .nil)
def b1 : CSs := (.cons (.ret (.and (.isi (.var 0) .str) (.cons (.chain .le .le (.con (.int 1)) (.blt 0 (.cons (.var 0) .nil)) (.glob 1)) (.cons (.blt 7 (.cons (.comp [1] (.var 1) (.seq (.var 0)) .nil (.cmp .isin (.var 1) (.glob 0))) .nil)) .nil))))
 .nil)
def b2 : CSs := (.cons (.ifS (.call 1 (.cons (.var 0) .nil)) (.cons (.ret (.con (.bl true)))
 .nil) .nil)
 (.cons (.ifS (.or (.not (.isi (.var 0) .tuple)) (.cons (.cmp .ne (.blt 0 (.cons (.var 0) .nil)) (.con (.int 3))) (.cons (.not (.call 1 (.cons (.idx (.var 0) (.con (.int 1))) .nil))) (.cons (.not (.call 1 (.cons (.idx (.var 0) (.con (.int 2))) .nil))) .nil)))) (.cons (.ret (.con (.bl false)))
 .nil) .nil)
 (.cons (.ret (.and (.isi (.idx (.var 0) (.con (.int 0))) .str) (.cons (.cmp .isin (.idx (.var 0) (.con (.int 0))) (.tup (.cons (.glob 3) (.cons (.glob 4) .nil)))) (.cons (.cmp .ne (.idx (.var 0) (.con (.int 1))) (.idx (.var 0) (.con (.int 2)))) .nil))))
 .nil)))
def b3 : CSs := (.cons (.ifS (.or (.not (.isi (.var 0) .tuple)) (.cons (.not (.chain .le .le (.con (.int 1)) (.blt 0 (.cons (.var 0) .nil)) (.glob 2))) .nil)) (.cons (.ret (.con (.bl false)))
 .nil) .nil)
 (.cons (.ifS (.not (.blt 7 (.cons (.comp [1] (.var 1) (.seq (.var 0)) .nil (.and (.isi (.var 1) .tuple) (.cons (.cmp .eq (.blt 0 (.cons (.var 1) .nil)) (.blt 0 (.cons (.var 0) .nil))) .nil))) .nil))) (.cons (.ret (.con (.bl false)))
 .nil) .nil)
 (.cons (.ret (.blt 7 (.cons (.comp [1] (.var 1) (.seq (.var 0)) .nil (.blt 7 (.cons (.comp [2] (.var 2) (.seq (.var 1)) .nil (.call 2 (.cons (.var 2) .nil))) .nil))) .nil)))
 .nil)))
def b4 : CSs := (.cons (.ifS (.not (.call 3 (.cons (.var 0) .nil))) (.cons (.raise 3 (.cons (.con (.str [110, 111, 116, 32, 97, 32, 98, 108, 111, 99, 107])) .nil))
 .nil) .nil)
 .nil)
def b5 : CSs := (.cons (.ret (.comp2 [1, 2] (.var 1) (.seq (.var 0)) .nil [2] (.var 2) (.seq (.var 1)) .nil (.var 2)))
 .nil)
def b6 : CSs := (.cons (.ifS (.not (.call 0 (.cons (.var 0) (.cons (.con (.int 1)) (.cons (.var 2) .nil))))) (.cons (.raise 4 (.cons (.con (.str [110, 111, 116, 32, 97, 32, 115, 105, 122, 101])) .nil))
 .nil) .nil)
 (.cons (.ifS (.not (.call 0 (.cons (.var 1) (.cons (.con (.int 1)) (.cons (.var 3) .nil))))) (.cons (.raise 5 (.cons (.con (.str [110, 111, 116, 32, 97, 32, 110, 117, 109, 98, 101, 114, 32, 111, 102, 32, 99, 111, 108, 111, 117, 114, 115])) .nil))
 .nil) .nil)
 .nil))
def b7 : CSs := (.cons (.asg (.var 2) (.con (.int 1)))
 (.cons (.forS (.var 3) (.rng (.cons (.var 1) .nil)) (.cons (.aug 2 .mul (.var 0))
 .nil))
 (.cons (.ret (.var 2))
 .nil)))
def b8 : CSs := (.cons (.asg (.var 1) (.blt 2 (.cons (.slc (.glob 0) .nil (.cons (.var 0) .nil)) .nil)))
 (.cons (.asg (.var 2) (.comp2 [3, 4] (.var 3) (.seq (.var 1)) .nil [4] (.var 4) (.seq (.var 1)) (.cons (.cmp .ne (.var 3) (.var 4)) .nil) (.tup (.cons (.var 3) (.cons (.var 4) .nil)))))
 (.cons (.ret (.bin .add (.bin .add (.var 1) (.comp [5] (.var 5) (.seq (.var 2)) .nil (.bin .add (.tup (.cons (.glob 3) .nil)) (.var 5)))) (.comp [5] (.var 5) (.seq (.var 2)) .nil (.bin .add (.tup (.cons (.glob 4) .nil)) (.var 5)))))
 .nil)))
def b9 : CSs := (.cons (.expr (.call 6 (.cons (.var 0) (.cons (.var 1) (.cons (.glob 2) (.cons (.glob 5) .nil))))))
 (.cons (.ret (.call 7 (.cons (.blt 0 (.cons (.call 8 (.cons (.var 1) .nil)) .nil)) (.cons (.bin .mul (.var 0) (.var 0)) .nil))))
 .nil))
def b10 : CSs := (.cons (.expr (.call 6 (.cons (.var 0) (.cons (.var 1) (.cons (.glob 2) (.cons (.glob 5) .nil))))))
 (.cons (.asg (.var 3) (.call 8 (.cons (.var 1) .nil)))
 (.cons (.ifS (.not (.call 0 (.cons (.var 2) (.cons (.con (.int 0)) (.cons (.bin .sub (.call 7 (.cons (.blt 0 (.cons (.var 3) .nil)) (.cons (.bin .mul (.var 0) (.var 0)) .nil))) (.con (.int 1))) .nil))))) (.cons (.raise 1 (.cons (.con (.str [110, 111, 116, 32, 116, 104, 101, 32, 110, 117, 109, 98, 101, 114, 32, 111, 102, 32, 97, 32, 98, 108, 111, 99, 107])) .nil))
 .nil) .nil)
 (.cons (.asg (.var 4) (.lst .nil))
 (.cons (.forS (.var 5) (.rng (.cons (.bin .mul (.var 0) (.var 0)) .nil)) (.cons (.app 4 (.idx (.var 3) (.bin .mod (.var 2) (.blt 0 (.cons (.var 3) .nil)))))
 (.cons (.aug 2 .fdiv (.blt 0 (.cons (.var 3) .nil)))
 .nil)))
 (.cons (.asg (.var 4) (.rev (.var 4)))
 (.cons (.ret (.blt 1 (.cons (.comp [6] (.var 6) (.rng (.cons (.var 0) .nil)) .nil (.blt 1 (.cons (.slc (.var 4) (.cons (.bin .mul (.var 0) (.var 6)) .nil) (.cons (.bin .add (.bin .mul (.var 0) (.var 6)) (.var 0)) .nil)) .nil))) .nil)))
 .nil)))))))
def b11 : CSs := (.cons (.expr (.call 4 (.cons (.var 0) .nil)))
 (.cons (.expr (.call 6 (.cons (.blt 0 (.cons (.var 0) .nil)) (.cons (.var 1) (.cons (.glob 2) (.cons (.glob 5) .nil))))))
 (.cons (.asg (.var 2) (.call 8 (.cons (.var 1) .nil)))
 (.cons (.asg (.var 3) (.con (.int 0)))
 (.cons (.forS (.var 4) (.seq (.call 5 (.cons (.var 0) .nil))) (.cons (.ifS (.cmp .notin (.var 4) (.var 2)) (.cons (.raise 2 (.cons (.con (.str [97, 110, 111, 116, 104, 101, 114, 32, 99, 111, 108, 111, 117, 114])) .nil))
 .nil) .nil)
 (.cons (.asg (.var 3) (.bin .add (.bin .mul (.var 3) (.blt 0 (.cons (.var 2) .nil))) (.mth 2 (.var 2) (.cons (.var 4) .nil))))
 .nil)))
 (.cons (.ret (.var 3))
 .nil))))))
def b12 : CSs := (.cons (.asg (.var 2) (.lst .nil))
 (.cons (.asg (.var 3) (.con (.int 7)))
 (.cons (.forS (.var 4) (.seq (.slc (.var 0) .nil (.cons (.con (.int 63)) .nil))) (.cons (.asg (.var 6) (.blt 9 (.cons (.var 4) .nil)))
 (.cons (.asg (.var 3) (.bin .mod (.blt 10 (.cons (.bin .add (.bin .add (.bin .mul (.var 3) (.con (.int 48271))) (.var 6)) (.con (.int 11))) .nil)) (.con (.int 2147483647))))
 (.cons (.ifS (.cmp .ge (.var 6) (.bin .pow (.con (.int 10)) (.con (.int 18)))) (.cons (.forS (.var 5) (.rng (.cons (.con (.int 60)) .nil)) (.cons (.ifS (.cmp .gt (.var 6) (.con (.int 0))) (.cons (.app 2 (.bin .mod (.blt 10 (.cons (.var 6) .nil)) (.con (.int 1009))))
 (.cons (.asg (.var 6) (.bin .fdiv (.var 6) (.con (.int 1009))))
 .nil)) .nil)
 .nil))
 .nil) (.cons (.app 2 (.bin .mod (.bin .fdiv (.blt 10 (.cons (.bin .add (.bin .mul (.var 3) (.con (.int 16807))) (.con (.int 5))) .nil)) (.con (.int 3))) (.con (.int 65521))))
 .nil))
 .nil))))
 (.cons (.forS (.var 5) (.rng (.cons (.var 1) .nil)) (.cons (.ifS (.cmp .lt (.blt 0 (.cons (.var 2) .nil)) (.var 1)) (.cons (.asg (.var 3) (.bin .mod (.blt 10 (.cons (.bin .add (.bin .add (.bin .mul (.var 3) (.con (.int 69621))) (.var 5)) (.con (.int 1))) .nil)) (.con (.int 2147483647))))
 (.cons (.app 2 (.bin .mod (.bin .fdiv (.blt 10 (.cons (.var 3) .nil)) (.con (.int 7))) (.con (.int 65521))))
 .nil)) .nil)
 .nil))
 (.cons (.ret (.slc (.var 2) .nil (.cons (.var 1) .nil)))
 .nil)))))
def b13 : CSs := (.cons (.ret (.con (.str [47])))
 .nil)
def b14 : CSs := (.cons (.ret (.con (.str [92])))
 .nil)
def b15 : CSs := (.cons (.par [4, 5] (.cons (.slc (.lst (.cons (.con (.str [97])) (.cons (.con (.str [98, 98])) (.cons (.con (.str [99])) (.cons (.con (.str [100])) .nil))))) .nil (.cons (.var 2) .nil)) (.cons (.lst .nil) .nil)))
 (.cons (.forS (.var 3) (.rng (.cons (.var 1) .nil)) (.cons (.asg (.var 6) (.lst .nil))
 (.cons (.forS (.var 7) (.rng (.cons (.var 1) .nil)) (.cons (.asg (.var 8) (.bin .fdiv (.blt 10 (.cons (.idx (.var 0) (.bin .mod (.bin .add (.bin .mul (.var 1) (.var 3)) (.var 7)) (.blt 0 (.cons (.var 0) .nil)))) .nil)) (.bin .add (.con (.int 1)) (.var 3))))
 (.cons (.par [9, 10] (.cons (.idx (.var 4) (.bin .mod (.var 8) (.var 2))) (.cons (.idx (.var 4) (.bin .mod (.bin .fdiv (.var 8) (.con (.int 4))) (.var 2))) .nil)))
 (.cons (.app 6 (.ite (.or (.cmp .eq (.var 9) (.var 10)) (.cons (.cmp .eq (.bin .mod (.bin .fdiv (.var 8) (.con (.int 16))) (.con (.int 3))) (.con (.int 0))) .nil)) (.var 9) (.tup (.cons (.idx (.lst (.cons (.call 13 .nil) (.cons (.call 14 .nil) .nil))) (.bin .mod (.bin .fdiv (.var 8) (.con (.int 48))) (.con (.int 2)))) (.cons (.var 9) (.cons (.var 10) .nil))))))
 .nil))))
 (.cons (.app 5 (.blt 1 (.cons (.var 6) .nil)))
 .nil))))
 (.cons (.ret (.blt 1 (.cons (.var 5) .nil)))
 .nil)))
def b16 : CSs := (.cons (.asg (.var 1) (.blt 2 (.cons (.slc (.con (.str [97, 98, 99, 100, 101, 102, 103, 104])) .nil (.cons (.var 0) .nil)) .nil)))
 (.cons (.asg (.var 2) (.lst .nil))
 (.cons (.forS (.var 3) (.seq (.var 1)) (.cons (.asg (.var 2) (.bin .add (.var 2) (.comp [5] (.var 5) (.seq (.var 1)) (.cons (.cmp .ne (.var 5) (.var 3)) .nil) (.tup (.cons (.var 3) (.cons (.var 5) .nil))))))
 .nil))
 (.cons (.ret (.bin .add (.bin .add (.var 1) (.comp [4] (.var 4) (.seq (.var 2)) .nil (.bin .add (.tup (.cons (.call 13 .nil) .nil)) (.var 4)))) (.comp [4] (.var 4) (.seq (.var 2)) .nil (.bin .add (.tup (.cons (.call 14 .nil) .nil)) (.var 4)))))
 .nil))))
def b17 : CSs := (.cons (.par [4, 5] (.cons (.call 16 (.cons (.var 1) .nil)) (.cons (.lst .nil) .nil)))
 (.cons (.forS (.var 3) (.rng (.cons (.var 0) .nil)) (.cons (.asg (.var 6) (.lst .nil))
 (.cons (.forS (.var 7) (.rng (.cons (.var 0) .nil)) (.cons (.asg (.var 6) (.bin .add (.lst (.cons (.idx (.var 4) (.bin .mod (.var 2) (.blt 0 (.cons (.var 4) .nil)))) .nil)) (.var 6)))
 (.cons (.asg (.var 2) (.bin .fdiv (.var 2) (.blt 0 (.cons (.var 4) .nil))))
 .nil)))
 (.cons (.asg (.var 5) (.bin .add (.lst (.cons (.blt 1 (.cons (.var 6) .nil)) .nil)) (.var 5)))
 .nil))))
 (.cons (.ret (.blt 1 (.cons (.var 5) .nil)))
 .nil)))
def b18 : CSs := (.cons (.tryS (.cons (.ifS (.cmp .eq (.var 0) (.con (.int 0))) (.cons (.expr (.call 10 (.cons (.var 1) (.cons (.var 2) (.cons (.var 3) .nil)))))
 .nil) (.cons (.expr (.call 11 (.cons (.var 1) (.cons (.var 2) .nil))))
 .nil))
 .nil) [([4], (.ret (.str [115, 105, 122, 101]))), ([5], (.ret (.str [110, 117, 109, 98, 101, 114]))), ([1], (.ret (.str [112, 108, 97, 99, 101]))), ([3], (.ret (.str [98, 108, 111, 99, 107]))), ([0], (.isi 2 (.str [99, 111, 108, 111, 117, 114]) (.str [111, 116, 104, 101, 114])))])
 (.cons (.ret (.con (.str [110, 111, 110, 101])))
 .nil))
def b19 : CSs := (.cons (.asg (.var 1) (.dct (.cons (.con (.str [97])) (.cons (.con (.str [98, 98])) (.cons (.con (.str [99])) (.cons (.con (.str [100])) .nil)))) (.cons (.con (.str [97])) (.cons (.con (.str [98])) (.cons (.con (.str [99])) (.cons (.con (.str [100])) .nil))))))
 (.cons (.ret (.ite (.isi (.var 0) .str) (.idx (.var 1) (.var 0)) (.tup (.cons (.idx (.var 0) (.con (.int 0))) (.cons (.idx (.var 1) (.idx (.var 0) (.con (.int 1)))) (.cons (.idx (.var 1) (.idx (.var 0) (.con (.int 2)))) .nil))))))
 .nil))
def b20 : CSs := (.cons (.asg (.var 1) (.call 12 (.cons (.var 0) (.cons (.con (.int 60)) .nil))))
 (.cons (.forS (.var 2) (.rng (.cons (.con (.int 5)) .nil)) (.cons (.par [9, 10] (.cons (.bin .add (.con (.int 1)) (.bin .mod (.blt 10 (.cons (.idx (.var 1) (.var 2)) .nil)) (.con (.int 5)))) (.cons (.bin .add (.con (.int 1)) (.bin .mod (.blt 10 (.cons (.idx (.var 1) (.bin .add (.con (.int 5)) (.var 2))) .nil)) (.con (.int 8)))) .nil)))
 (.cons (.par [11, 12] (.cons (.call 9 (.cons (.var 9) (.cons (.var 10) .nil))) (.cons (.con (.int 0)) .nil)))
 (.cons (.forS (.var 4) (.rng (.cons (.con (.int 12)) .nil)) (.cons (.asg (.var 12) (.bin .add (.bin .mul (.var 12) (.con (.int 65521))) (.blt 10 (.cons (.idx (.var 1) (.bin .mod (.bin .add (.bin .add (.con (.int 10)) (.bin .mul (.con (.int 3)) (.var 2))) (.var 4)) (.con (.int 60)))) .nil))))
 .nil))
 (.cons (.forS (.var 5) (.seq (.lst (.cons (.bin .mod (.var 12) (.var 11)) (.cons (.con (.int 0)) (.cons (.bin .sub (.var 11) (.con (.int 1))) (.cons (.bin .mod (.bin .fdiv (.var 12) (.con (.int 7))) (.var 11)) (.cons (.bin .mod (.bin .add (.var 12) (.con (.int 1))) (.var 11)) .nil))))))) (.cons (.asg (.var 13) (.call 17 (.cons (.var 9) (.cons (.var 10) (.cons (.var 5) .nil)))))
 (.cons (.ifS (.or (.cmp .ne (.call 10 (.cons (.var 9) (.cons (.var 10) (.cons (.var 5) .nil)))) (.var 13)) (.cons (.cmp .ne (.call 11 (.cons (.var 13) (.cons (.var 10) .nil))) (.var 5)) .nil)) (.cons (.ret (.con (.bl false)))
 .nil) .nil)
 .nil)))
 (.cons (.asg (.var 6) (.call 15 (.cons (.bin .add (.slc (.var 1) (.cons (.bin .mul (.con (.int 9)) (.var 2)) .nil) .nil) (.var 1)) (.cons (.var 9) (.cons (.blt 5 (.cons (.con (.int 4)) (.cons (.bin .add (.con (.int 1)) (.bin .mod (.blt 10 (.cons (.idx (.var 1) (.bin .add (.con (.int 30)) (.var 2))) .nil)) (.con (.int 4)))) .nil))) .nil)))))
 (.cons (.asg (.var 7) (.blt 1 (.cons (.comp [14] (.var 14) (.seq (.var 6)) .nil (.blt 1 (.cons (.comp [15] (.var 15) (.seq (.var 14)) .nil (.call 19 (.cons (.var 15) .nil))) .nil))) .nil)))
 (.cons (.ifS (.or (.cmp .ne (.call 10 (.cons (.var 9) (.cons (.con (.int 4)) (.cons (.call 11 (.cons (.var 7) (.cons (.con (.int 4)) .nil))) .nil)))) (.var 7)) (.cons (.cmp .ne (.call 18 (.cons (.con (.int 1)) (.cons (.slc (.bin .add (.tup (.cons (.tup (.cons (.con (.str [122, 122])) .nil)) .nil)) (.tup (.cons (.tup (.cons (.con (.str [122, 122])) .nil)) .nil))) .nil (.cons (.con (.int 1)) .nil)) (.cons (.con (.int 4)) (.cons (.con .non) .nil))))) (.con (.str [99, 111, 108, 111, 117, 114]))) .nil)) (.cons (.ret (.con (.bl false)))
 .nil) .nil)
 (.cons (.forS (.var 8) (.seq (.lst (.cons (.var 11) (.cons (.neg (.con (.int 1))) (.cons (.con (.bl true)) (.cons (.con .non) (.cons (.con (.str [48])) .nil))))))) (.cons (.ifS (.cmp .ne (.call 18 (.cons (.con (.int 0)) (.cons (.var 9) (.cons (.var 10) (.cons (.var 8) .nil))))) (.con (.str [112, 108, 97, 99, 101]))) (.cons (.ret (.con (.bl false)))
 .nil) .nil)
 .nil))
 (.cons (.forS (.var 8) (.seq (.lst (.cons (.con (.int 0)) (.cons (.con (.int 9)) (.cons (.con (.bl true)) (.cons (.con .non) (.cons (.con (.str [50])) .nil))))))) (.cons (.ifS (.or (.cmp .ne (.call 18 (.cons (.con (.int 0)) (.cons (.var 9) (.cons (.var 8) (.cons (.con .non) .nil))))) (.con (.str [110, 117, 109, 98, 101, 114]))) (.cons (.cmp .ne (.call 18 (.cons (.con (.int 1)) (.cons (.var 7) (.cons (.var 8) (.cons (.con .non) .nil))))) (.con (.str [110, 117, 109, 98, 101, 114]))) .nil)) (.cons (.ret (.con (.bl false)))
 .nil) .nil)
 .nil))
 (.cons (.forS (.var 8) (.seq (.lst (.cons (.con (.int 0)) (.cons (.con (.int 7)) (.cons (.con (.bl true)) (.cons (.con .non) (.cons (.con (.str [50])) .nil))))))) (.cons (.ifS (.cmp .ne (.call 18 (.cons (.con (.int 0)) (.cons (.var 8) (.cons (.con .non) (.cons (.con .non) .nil))))) (.con (.str [115, 105, 122, 101]))) (.cons (.ret (.con (.bl false)))
 .nil) .nil)
 .nil))
 (.cons (.forS (.var 8) (.seq (.lst (.cons (.con .non) (.cons (.tup .nil) (.cons (.blt 2 (.cons (.var 7) .nil)) (.cons (.tup (.cons (.tup (.cons (.con .non) .nil)) .nil)) (.cons (.con (.int 7)) .nil))))))) (.cons (.ifS (.cmp .ne (.call 18 (.cons (.con (.int 1)) (.cons (.var 8) (.cons (.con .non) (.cons (.con .non) .nil))))) (.con (.str [98, 108, 111, 99, 107]))) (.cons (.ret (.con (.bl false)))
 .nil) .nil)
 .nil))
 .nil))))))))))))
 (.cons (.asg (.var 3) (.tup (.cons (.tup (.cons (.tup (.cons (.call 14 .nil) (.cons (.con (.str [98])) (.cons (.con (.str [97])) .nil)))) .nil)) .nil)))
 (.cons (.ret (.and (.cmp .eq (.call 11 (.cons (.var 3) (.cons (.con (.int 2)) .nil))) (.con (.int 5))) (.cons (.cmp .eq (.call 10 (.cons (.con (.int 1)) (.cons (.con (.int 2)) (.cons (.con (.int 2)) .nil)))) (.tup (.cons (.tup (.cons (.tup (.cons (.call 13 .nil) (.cons (.con (.str [97])) (.cons (.con (.str [98])) .nil)))) .nil)) .nil))) (.cons (.cmp .eq (.call 18 (.cons (.con (.int 1)) (.cons (.var 3) (.cons (.con (.int 1)) (.cons (.con .non) .nil))))) (.con (.str [99, 111, 108, 111, 117, 114]))) (.cons (.cmp .eq (.call 11 (.cons (.tup (.cons (.tup (.cons (.con (.str [97])) (.cons (.con (.str [98])) .nil))) (.cons (.tup (.cons (.con (.str [98])) (.cons (.con (.str [97])) .nil))) .nil))) (.cons (.con (.int 2)) .nil))) (.con (.int 42))) .nil)))))
 .nil))))
def cons : List D := [(.str [97, 98, 99, 100, 101, 102, 103, 104, 105, 106, 107, 108, 109, 110, 111, 112, 113, 114, 115, 116, 117, 118, 119, 120, 121, 122]), (.int 8), (.int 6), (.str [47]), (.str [92]), (.int 8)]
def sub : Nat → Nat → Bool := fun a b => match a, b with | 0, 0 => true | 1, 0 => true | 1, 1 => true | 2, 0 => true | 2, 2 => true | 3, 0 => true | 3, 3 => true | 4, 0 => true | 4, 4 => true | 5, 0 => true | 5, 5 => true | _, _ => false
def tb : Tb := ⟨cons, stdB, stdM, sub⟩

def Pg : List Fn := [⟨3, 3, b0⟩, ⟨1, 2, b1⟩, ⟨1, 1, b2⟩, ⟨1, 3, b3⟩, ⟨1, 1, b4⟩, ⟨1, 3, b5⟩, ⟨4, 4, b6⟩, ⟨2, 4, b7⟩, ⟨1, 6, b8⟩, ⟨2, 2, b9⟩, ⟨3, 7, b10⟩, ⟨2, 5, b11⟩, ⟨2, 7, b12⟩, ⟨0, 0, b13⟩, ⟨0, 0, b14⟩, ⟨3, 11, b15⟩, ⟨1, 6, b16⟩, ⟨3, 8, b17⟩, ⟨4, 5, b18⟩, ⟨1, 2, b19⟩, ⟨1, 16, b20⟩]
theorem draws_is : b12 = bDraws := rfl
abbrev cl (n : Nat) : Call := callN tb Pg 100 n
def retM : SM → M (Fl × D)
  | some (.rt fl d) => okM (fl, d)
  | some (.nx _) => okM (.st, .non)
  | some (.ex _ c p) => some (.ex c p)
  | _ => none
theorem call_def {f n : Nat} {ds : List D} (fn : Fn) (h : Pg[f]? = some fn) (hl : ds.length = fn.np) : cl (n + 1) f ds = retM (exSs tb (cl n) 100 (frameOf fn ds) fn.body) := by
  show callN tb Pg 100 (n + 1) f ds = _
  rw [callN, h]
  simp only [hl, if_true]
  cases exSs tb (callN tb Pg 100 n) 100 (frameOf fn ds) fn.body with
  | none => rfl
  | some r => cases r <;> rfl
theorem t_len : tb.blt[0]? = some pLen := rfl
theorem t_tup : tb.blt[1]? = some pTuple := rfl
theorem t_lst : tb.blt[2]? = some pList := rfl
theorem t_min : tb.blt[5]? = some pMin := rfl
theorem t_all : tb.blt[7]? = some pAll := rfl
theorem t_int : tb.blt[10]? = some pInt := rfl
theorem t_idx : tb.mth[2]? = some ⟨[4], mIndex⟩ := rfl
theorem g2 : tb.con[2]? = some (.int 6) := rfl
theorem g5 : tb.con[5]? = some (.int 8) := rfl
theorem c_whole (n : Nat) (v l h : Int) : cl (n + 1) 0 [.int v, .int l, .int h] = some (.ok (.st, .bl (decide (l ≤ v) && decide (v ≤ h)))) := by
  rw [call_def ⟨3, 3, b0⟩ rfl rfl]
  by_cases h1 : l ≤ v <;> by_cases h2 : v ≤ h <;> simp [exSs, exS, evE, evAnd, evOr, evEs, evTs, evO, getS, okM, M.bind, nxM, stP, varP, isBox, outFl, Fl.still, Fl.isUn, froz, varOf, varsOf, bindP, bindPs, truth, noDct, tyIs, evCmp, Ev.vals, fls, anyUn, ownAt, List.set, seqS_id, M.bind_ok, parS, stills, b0, frameOf, h1, h2, retM]
theorem c_check (n : Nat) (s c : Int) (h1 : 1 ≤ s) (h2 : s ≤ 6) (h3 : 1 ≤ c) (h4 : c ≤ 8) : cl (n + 2) 6 [.int s, .int c, .int 6, .int 8] = some (.ok (.st, .non)) := by
  rw [call_def ⟨4, 4, b6⟩ rfl rfl]
  have e1 := c_whole n s 1 6
  have e2 := c_whole n c 1 8
  simp [exSs, exS, evE, evAnd, evOr, evEs, evTs, evO, getS, okM, M.bind, nxM, stP, varP, isBox, outFl, Fl.still, Fl.isUn, froz, varOf, varsOf, bindP, bindPs, truth, noDct, tyIs, evCmp, Ev.vals, fls, anyUn, ownAt, List.set, seqS_id, M.bind_ok, parS, stills, h1, h2] at e1
  simp [exSs, exS, evE, evAnd, evOr, evEs, evTs, evO, getS, okM, M.bind, nxM, stP, varP, isBox, outFl, Fl.still, Fl.isUn, froz, varOf, varsOf, bindP, bindPs, truth, noDct, tyIs, evCmp, Ev.vals, fls, anyUn, ownAt, List.set, seqS_id, M.bind_ok, parS, stills, h3, h4] at e2
  simp [exSs, exS, evE, evAnd, evOr, evEs, evTs, evO, getS, okM, M.bind, nxM, stP, varP, isBox, outFl, Fl.still, Fl.isUn, froz, varOf, varsOf, bindP, bindPs, truth, noDct, tyIs, evCmp, Ev.vals, fls, anyUn, ownAt, List.set, seqS_id, M.bind_ok, parS, stills, b6, frameOf, e1, e2, retM]
theorem c_power (n : Nat) (b : Int) (k : Nat) (hk : k ≤ 100) (hb : small64 b = true) : cl (n + 1) 7 [.int b, .int k] = some (.ok (.st, .int (b ^ k))) := by
  rw [call_def ⟨2, 4, b7⟩ rfl rfl]
  have key : ∀ (r : List D) (a : Int) (t : Slot), ∃ t', loop (bodyF tb (cl n) 100 (.var 3) (.cons (.aug 2 .mul (.var 0)) .nil)) r [some (.fz, .int b), some (.fz, .int k), some (.fz, .int a), t] = some (.nx [some (.fz, .int b), some (.fz, .int k), some (.fz, .int (a * b ^ r.length)), t']) := by
    intro r
    induction r with
    | nil => intro a t; exact ⟨t, by simp [exSs, exS, evE, evAnd, evOr, evEs, evTs, evO, getS, okM, M.bind, nxM, stP, varP, isBox, outFl, Fl.still, Fl.isUn, froz, varOf, varsOf, bindP, bindPs, truth, noDct, tyIs, evCmp, Ev.vals, fls, anyUn, ownAt, List.set, seqS_id, M.bind_ok, parS, stills, loop]⟩
    | cons d r ih =>
      intro a t
      obtain ⟨t', e⟩ := ih (a * b) (some (.fz, d))
      refine ⟨t', ?_⟩
      have step : bodyF tb (cl n) 100 (.var 3) (.cons (.aug 2 .mul (.var 0)) .nil) [some (.fz, .int b), some (.fz, .int k), some (.fz, .int a), t] d = some (.nx [some (.fz, .int b), some (.fz, .int k), some (.fz, .int (a * b)), some (.fz, d)]) := by
        simp [exSs, exS, evE, evAnd, evOr, evEs, evTs, evO, getS, okM, M.bind, nxM, stP, varP, isBox, outFl, Fl.still, Fl.isUn, froz, varOf, varsOf, bindP, bindPs, truth, noDct, tyIs, evCmp, Ev.vals, fls, anyUn, ownAt, List.set, seqS_id, M.bind_ok, parS, stills, bodyF, evAug, hb]
      rw [loop, step]
      simp only
      rw [e, List.length_cons, Int.pow_succ, Int.mul_assoc, Int.mul_comm b]
  obtain ⟨t', e⟩ := key (rangeD 0 k) 1 none
  rw [rangeD_len, Int.one_mul] at e
  have f := for_rng (T := tb) (cl := cl n) (fu := 100) (e := .var 1) (p := .var 3) (b := .cons (.aug 2 .mul (.var 0)) .nil) (env := [some (.fz, .int b), some (.fz, .int k), some (.fz, .int 1), none]) (n := k) (by simp [exSs, exS, evE, evAnd, evOr, evEs, evTs, evO, getS, okM, M.bind, nxM, stP, varP, isBox, outFl, Fl.still, Fl.isUn, froz, varOf, varsOf, bindP, bindPs, truth, noDct, tyIs, evCmp, Ev.vals, fls, anyUn, ownAt, List.set, seqS_id, M.bind_ok, parS, stills]) (by omega)
  rw [e] at f
  have f0 : ∀ r, exSs tb (cl n) 100 [some (.fz, .int b), some (.fz, .int k), none, none] (.cons (.asg (.var 2) (.con (.int 1))) r) = exSs tb (cl n) 100 [some (.fz, .int b), some (.fz, .int k), some (.fz, .int 1), none] r := fun r => by simp [exSs, exS, evE, evAnd, evOr, evEs, evTs, evO, getS, okM, M.bind, nxM, stP, varP, isBox, outFl, Fl.still, Fl.isUn, froz, varOf, varsOf, bindP, bindPs, truth, noDct, tyIs, evCmp, Ev.vals, fls, anyUn, ownAt, List.set, seqS_id, M.bind_ok, parS, stills]
  show retM (exSs tb (cl n) 100 [some (.fz, .int b), some (.fz, .int k), none, none] b7) = _
  rw [b7, f0, exSs, f, seqS_nx]
  simp [exSs, exS, evE, evAnd, evOr, evEs, evTs, evO, getS, okM, M.bind, nxM, stP, varP, isBox, outFl, Fl.still, Fl.isUn, froz, varOf, varsOf, bindP, bindPs, truth, noDct, tyIs, evCmp, Ev.vals, fls, anyUn, ownAt, List.set, seqS_id, M.bind_ok, parS, stills, retM]
/-! ### the cells -/
def cellsD (c : Nat) : List D := match callN tb Pg 100 1 8 [.int c] with
  | some (.ok (_, .lst ds)) => ds
  | _ => []
theorem c_cells (n c : Nat) (h1 : 1 ≤ c) (h2 : c ≤ 8) : cl (n + 1) 8 [.int c] = some (.ok (.fr, .lst (cellsD c))) := by
  have : c = 1 ∨ c = 2 ∨ c = 3 ∨ c = 4 ∨ c = 5 ∨ c = 6 ∨ c = 7 ∨ c = 8 := by omega
  rcases this with rfl | rfl | rfl | rfl | rfl | rfl | rfl | rfl <;> rfl
theorem c_lcells (n c : Nat) (h1 : 1 ≤ c) (h2 : c ≤ 8) : cl (n + 2) 16 [.int c] = some (.ok (.fr, .lst (cellsD c))) := by
  have : c = 1 ∨ c = 2 ∨ c = 3 ∨ c = 4 ∨ c = 5 ∨ c = 6 ∨ c = 7 ∨ c = 8 := by omega
  rcases this with rfl | rfl | rfl | rfl | rfl | rfl | rfl | rfl <;> rfl
theorem cells_len (c : Nat) (h1 : 1 ≤ c) (h2 : c ≤ 8) : (cellsD c).length = 2 * c * c - c := by
  have : c = 1 ∨ c = 2 ∨ c = 3 ∨ c = 4 ∨ c = 5 ∨ c = 6 ∨ c = 7 ∨ c = 8 := by omega
  rcases this with rfl | rfl | rfl | rfl | rfl | rfl | rfl | rfl <;> decide +kernel
end K24

end
section
set_option autoImplicit false
set_option linter.all false
set_option maxRecDepth 100000
set_option maxHeartbeats 4000000
namespace K24
open Ev
/-! ### plain -/
def cdg (C : List D) : Nat → Nat → List D
  | 0, _ => []
  | k + 1, x => C.getD (x % C.length) .non :: cdg C k (x / C.length)
theorem cdg_len (C : List D) : ∀ k x, (cdg C k x).length = k
  | 0, _ => rfl
  | k + 1, x => by rw [cdg, List.length_cons, cdg_len C k]
theorem cdg_add (C : List D) : ∀ a b x, cdg C (a + b) x = cdg C a x ++ cdg C b (x / C.length ^ a)
  | 0, b, x => by simp [cdg]
  | a + 1, b, x => by
    rw [Nat.add_right_comm, cdg, cdg_add C a b, cdg, List.cons_append, Nat.pow_succ, Nat.mul_comm, Nat.div_div_eq_div_mul]
def ix (d : D) (C : List D) : Nat := (Ev.idxD d C 0).getD 0
def horner (C : List D) (a : Nat) (l : List D) : Nat := l.foldl (fun a d => a * C.length + ix d C) a
structure Good (C : List D) : Prop where
  pos : 0 < C.length
  small : C.length ≤ 200
  at' : ∀ i, i < C.length → ix (C.getD i .non) C = i
  ix' : ∀ d ∈ C, Ev.idxD d C 0 = some (ix d C)
  lt : ∀ d ∈ C, ix d C < C.length
  get : ∀ d ∈ C, C.getD (ix d C) .non = d
  notin : ∀ d ∈ C, evCmp .notin d (.lst C) = some false
  cm : ∀ d ∈ C, cmpN 48 d = true ∧ dEq d d = true ∧ imm d = true ∧ cmpOk d = true
  cms : cmpOks C = true
theorem cdg_mem {C : List D} (G : Good C) : ∀ k x, ∀ d ∈ cdg C k x, d ∈ C
  | 0, _, d, h => by simp [cdg] at h
  | k + 1, x, d, h => by
    rw [cdg] at h
    rcases List.mem_cons.mp h with h | h
    · subst h
      have := Nat.mod_lt x G.pos
      rw [List.getD_eq_getElem?_getD, List.getElem?_eq_getElem this]
      exact List.getElem_mem this
    · exact cdg_mem G k _ d h
theorem horner_app (C : List D) (a : Nat) (l m : List D) : horner C a (l ++ m) = horner C (horner C a l) m := by simp [horner]
theorem horner_cdg {C : List D} (G : Good C) : ∀ k x, x < C.length ^ k → horner C 0 (cdg C k x).reverse = x
  | 0, x, h => by simp at h; subst h; rfl
  | k + 1, x, h => by
    rw [cdg, List.reverse_cons, horner_app, horner_cdg G k (x / C.length) (by
      rw [Nat.div_lt_iff_lt_mul G.pos]; rwa [Nat.pow_succ] at h)]
    show x / C.length * C.length + ix _ C = x
    rw [G.at' _ (Nat.mod_lt x G.pos), Nat.mul_comm]
    exact Nat.div_add_mod x C.length
theorem cdg_horner {C : List D} (G : Good C) : ∀ l : List D, (∀ d ∈ l, d ∈ C) → cdg C l.length (horner C 0 l.reverse) = l ∧ horner C 0 l.reverse < C.length ^ l.length
  | [], _ => ⟨rfl, by simp [horner]⟩
  | d :: l, h => by
    obtain ⟨h1, h2⟩ := cdg_horner G l (fun e he => h e (List.mem_cons_of_mem _ he))
    have hd := h d List.mem_cons_self
    have hl := G.lt d hd
    rw [List.reverse_cons, horner_app]
    generalize horner C 0 l.reverse = y at h1 h2 ⊢
    have e : horner C y [d] = y * C.length + ix d C := rfl
    have e1 : (y * C.length + ix d C) % C.length = ix d C := by rw [Nat.mul_comm, Nat.mul_add_mod]; exact Nat.mod_eq_of_lt hl
    have e2 : (y * C.length + ix d C) / C.length = y := by rw [Nat.mul_comm, Nat.mul_add_div G.pos, Nat.div_eq_of_lt hl]; rfl
    rw [e, List.length_cons, cdg, e1, e2, G.get d hd, h1]
    refine ⟨rfl, ?_⟩
    rw [Nat.pow_succ]
    have : y * C.length + C.length ≤ C.length ^ l.length * C.length := by
      rw [← Nat.succ_mul]; exact Nat.mul_le_mul_right _ h2
    omega
/-- rows of s, the last first -/
def chunks (s k : Nat) (R : List D) : List (List D) := (List.range k).map fun r => (R.drop (s * r)).take s
def lrows (C : List D) (s : Nat) : Nat → Nat → List (List D)
  | 0, _ => []
  | k + 1, x => lrows C s k (x / C.length ^ s) ++ [(cdg C s x).reverse]
theorem chunks_snoc (s k : Nat) (A B : List D) (hA : A.length = s * k) (hB : B.length = s) : chunks s (k + 1) (A ++ B) = chunks s k A ++ [B] := by
  unfold chunks
  rw [List.range_succ, List.map_append]
  congr 1
  · apply List.map_congr_left
    intro r hr
    have hr := List.mem_range.mp hr
    have : s * r + s ≤ A.length := by rw [hA, ← Nat.mul_succ]; exact Nat.mul_le_mul_left _ hr
    rw [List.drop_append_of_le_length (by omega), List.take_append_of_le_length (by rw [List.length_drop]; omega)]
  · simp only [List.map_cons, List.map_nil]
    rw [List.drop_left' hA, List.take_of_length_le (by omega)]
theorem chunks_rows (C : List D) (s : Nat) : ∀ k x, chunks s k (cdg C (s * k) x).reverse = lrows C s k x
  | 0, _ => rfl
  | k + 1, x => by
    have e : s * (k + 1) = s + s * k := by rw [Nat.mul_succ, Nat.add_comm]
    rw [e, cdg_add, List.reverse_append, chunks_snoc s k _ _ (by simp [cdg_len]) (by simp [cdg_len]), chunks_rows C s k, lrows]
theorem rows_flat (C : List D) (s : Nat) : ∀ k x, (lrows C s k x).flatten = (cdg C (s * k) x).reverse
  | 0, _ => rfl
  | k + 1, x => by
    have e : s * (k + 1) = s + s * k := by rw [Nat.mul_succ, Nat.add_comm]
    rw [e, cdg_add, List.reverse_append, lrows, List.flatten_append, rows_flat C s k]
    simp
theorem rows_len (C : List D) (s : Nat) : ∀ k x, (lrows C s k x).length = k ∧ ∀ r ∈ lrows C s k x, r.length = s
  | 0, _ => ⟨rfl, fun _ h => by simp [lrows] at h⟩
  | k + 1, x => by
    obtain ⟨h1, h2⟩ := rows_len C s k (x / C.length ^ s)
    refine ⟨by simp [lrows, h1], fun r hr => ?_⟩
    rw [lrows] at hr
    rcases List.mem_append.mp hr with hr | hr
    · exact h2 r hr
    · simp only [List.mem_singleton] at hr; subst hr; simp [cdg_len]
theorem flat_len (s : Nat) : ∀ (rows : List (List D)), (∀ r ∈ rows, r.length = s) → rows.flatten.length = s * rows.length
  | [], _ => by simp
  | r :: rs, h => by
    rw [List.flatten_cons, List.length_append, flat_len s rs (fun x hx => h x (List.mem_cons_of_mem _ hx)), h r List.mem_cons_self, List.length_cons, Nat.mul_succ, Nat.add_comm]
theorem chunks_rev (s : Nat) : ∀ rows : List (List D), (∀ r ∈ rows, r.length = s) → chunks s rows.length rows.reverse.flatten = rows.reverse
  | [], _ => rfl
  | r :: rs, h => by
    have h' : ∀ x ∈ rs, x.length = s := fun x hx => h x (List.mem_cons_of_mem _ hx)
    rw [List.reverse_cons, List.flatten_append, List.length_cons]
    have e : [r].flatten = r := by simp
    rw [e, chunks_snoc s _ _ _ (by rw [flat_len s rs.reverse (fun x hx => h' x (List.mem_reverse.mp hx)), List.length_reverse]) (h r List.mem_cons_self), chunks_rev s rs h']
theorem chunks_flat (s : Nat) (rows : List (List D)) (h : ∀ r ∈ rows, r.length = s) : chunks s rows.length rows.flatten = rows := by
  have := chunks_rev s rows.reverse (fun x hx => h x (List.mem_reverse.mp hx))
  rwa [List.length_reverse, List.reverse_reverse] at this
def goodB (C : List D) : Bool := decide (0 < C.length) && decide (C.length ≤ 200) && (List.range C.length).all (fun i => ix (C.getD i .non) C == i) &&
  C.all (fun d => (Ev.idxD d C 0).isSome && decide (ix d C < C.length) && (match evCmp .notin d (.lst C) with | some false => true | _ => false) && cmpN 48 d && dEq d d && imm d && cmpOk d) && cmpOks C
theorem goods : goodB (cellsD 1) && goodB (cellsD 2) && goodB (cellsD 3) && goodB (cellsD 4) && goodB (cellsD 5) && goodB (cellsD 6) && goodB (cellsD 7) && goodB (cellsD 8) = true := by decide +kernel
theorem good_of {C : List D} (h : goodB C = true) : Good C := by
  simp only [goodB, Bool.and_eq_true, decide_eq_true_eq, List.all_eq_true, beq_iff_eq, List.mem_range] at h
  obtain ⟨⟨⟨⟨h1, h2⟩, h3⟩, h4⟩, h5⟩ := h
  refine ⟨h1, h2, h3, fun d hd => ?_, fun d hd => (h4 d hd).1.1.1.1.1.2, fun d hd => ?_, fun d hd => ?_, fun d hd => ⟨(h4 d hd).1.1.1.2, (h4 d hd).1.1.2, (h4 d hd).1.2, (h4 d hd).2⟩, h5⟩
  · have := (h4 d hd).1.1.1.1.1.1
    unfold ix
    cases e : Ev.idxD d C 0 with
    | none => rw [e] at this; simp at this
    | some n => rfl
  · obtain ⟨i, hi, e⟩ := List.mem_iff_getElem.mp hd
    have e' : C.getD i .non = d := by rw [List.getD_eq_getElem?_getD, List.getElem?_eq_getElem hi]; exact e
    have := h3 i hi
    rw [e'] at this
    rw [this, e']
  · have := (h4 d hd).1.1.1.1.2
    revert this
    cases evCmp .notin d (.lst C) with
    | none => simp
    | some b => cases b <;> simp
theorem good (c : Nat) (h1 : 1 ≤ c) (h2 : c ≤ 8) : Good (cellsD c) := by
  have g := goods
  simp only [Bool.and_eq_true] at g
  obtain ⟨⟨⟨⟨⟨⟨⟨g1, g2⟩, g3⟩, g4⟩, g5⟩, g6⟩, g7⟩, g8⟩ := g
  have : c = 1 ∨ c = 2 ∨ c = 3 ∨ c = 4 ∨ c = 5 ∨ c = 6 ∨ c = 7 ∨ c = 8 := by omega
  rcases this with rfl | rfl | rfl | rfl | rfl | rfl | rfl | rfl
  · exact good_of g1
  · exact good_of g2
  · exact good_of g3
  · exact good_of g4
  · exact good_of g5
  · exact good_of g6
  · exact good_of g7
  · exact good_of g8
end K24

end
section
set_option autoImplicit false
set_option linter.all false
set_option maxRecDepth 100000
set_option maxHeartbeats 4000000
namespace K24
open Ev
theorem turns_map {F : D → M (Option D)} {g : D → D} : ∀ ds : List D, (∀ d ∈ ds, F d = some (.ok (some (g d)))) → turns F ds = some (.ok (ds.map g))
  | [], _ => rfl
  | d :: ds, h => by
    rw [turns, h d List.mem_cons_self, M.bind_ok, turns_map ds (fun x hx => h x (List.mem_cons_of_mem _ hx)), M.bind_ok]
    rfl
theorem rangeD_map : ∀ (n : Nat) (lo : Int), rangeD lo n = (List.range n).map fun i => D.int (lo + (i : Nat))
  | 0, _ => rfl
  | n + 1, lo => by
    rw [rangeD, rangeD_map n, List.range_succ_eq_map, List.map_cons, List.map_map]
    congr 1
    · simp
    · apply List.map_congr_left
      intro i _
      simp only [Function.comp]
      congr 1
      omega
theorem turns_rng {F : D → M (Option D)} {g : Nat → D} (n : Nat) (h : ∀ i : Nat, i < n → F (.int i) = some (.ok (some (g i)))) : turns F (rangeD 0 n) = some (.ok ((List.range n).map g)) := by
  have e : (List.range n).map g = (rangeD 0 n).map (fun d => match d with | .int i => g i.toNat | _ => .non) := by
    rw [rangeD_map, List.map_map]
    apply List.map_congr_left
    intro i _
    simp
  rw [e]
  apply turns_map
  intro d hd
  rw [rangeD_map] at hd
  obtain ⟨i, hi, rfl⟩ := List.mem_map.mp hd
  have := h i (List.mem_range.mp hi)
  simpa using this
theorem fmod_nat (x L : Nat) : (x : Int).fmod (L : Int) = ((x % L : Nat) : Int) := by
  rw [Int.fmod_eq_emod_of_nonneg _ (Int.natCast_nonneg L)]; rfl
theorem fdiv_nat (x L : Nat) : (x : Int).fdiv (L : Int) = ((x / L : Nat) : Int) := by
  rw [Int.fdiv_eq_ediv_of_nonneg _ (Int.natCast_nonneg L)]; rfl
theorem atD_nat (C : List D) (i : Nat) (h : i < C.length) : atD C (i : Int) = some (C.getD i .non) := by
  have : ixAt C.length (i : Int) = some i := by
    unfold ixAt
    rw [if_pos (Int.natCast_nonneg i), if_pos (by omega)]
    simp
  rw [atD, this, List.getD_eq_getElem?_getD, List.getElem?_eq_getElem h]
  simp [exSs, exS, evE, evAnd, evOr, evEs, evTs, evO, getS, okM, M.bind, nxM, stP, varP, isBox, outFl, Fl.still, Fl.isUn, froz, varOf, varsOf, bindP, bindPs, truth, noDct, tyIs, evCmp, Ev.vals, fls, anyUn, ownAt, List.set, seqS_id, M.bind_ok, parS, stills, List.getElem?_eq_getElem h]
theorem cut_nat (R : List D) (a b : Nat) (h1 : a ≤ R.length) (h2 : b ≤ R.length) : cutL R (some (a : Int)) (some (b : Int)) = (R.drop a).take (b - a) := by
  unfold cutL
  have e1 : clip R.length 0 (some (a : Int)) = a := by
    simp only [clip]; rw [if_neg (by omega)]; simp; omega
  have e2 : clip R.length R.length (some (b : Int)) = b := by
    simp only [clip]; rw [if_neg (by omega)]; simp; omega
  rw [e1, e2]
def b10in : CSs := (.cons (.app 4 (.idx (.var 3) (.bin .mod (.var 2) (.blt 0 (.cons (.var 3) .nil))))) (.cons (.aug 2 .fdiv (.blt 0 (.cons (.var 3) .nil))) .nil))
def e10 (s c : D) (x : Nat) (C acc : List D) (t : Slot) : Env := [some (.fz, s), some (.fz, c), some (.fz, .int x), some (.ow, .lst C), some (.ow, .lst acc), t, none]
theorem l10 (n : Nat) {C : List D} (G : Good C) (s c : D) : ∀ (ds : List D) (x : Nat) (acc : List D) (t : Slot), acc.length + ds.length ≤ 1000 → ∃ t', loop (bodyF tb (cl n) 100 (.var 5) b10in) ds (e10 s c x C acc t) = some (.nx (e10 s c (x / C.length ^ ds.length) C (acc ++ cdg C ds.length x) t'))
  | [], x, acc, t, _ => ⟨t, by simp [exSs, exS, evE, evAnd, evOr, evEs, evTs, evO, getS, okM, M.bind, nxM, stP, varP, isBox, outFl, Fl.still, Fl.isUn, froz, varOf, varsOf, bindP, bindPs, truth, noDct, tyIs, evCmp, Ev.vals, fls, anyUn, ownAt, List.set, seqS_id, M.bind_ok, parS, stills, loop, cdg]⟩
  | d :: ds, x, acc, t, h => by
    simp only [List.length_cons] at h
    obtain ⟨t', e⟩ := l10 n G s c ds (x / C.length) (acc ++ [C.getD (x % C.length) .non]) (some (.fz, d)) (by simp; omega)
    refine ⟨t', ?_⟩
    have hl : lenLe (acc ++ [C.getD (x % C.length) .non]) line = true := lenLe_of (by simp [exSs, exS, evE, evAnd, evOr, evEs, evTs, evO, getS, okM, M.bind, nxM, stP, varP, isBox, outFl, Fl.still, Fl.isUn, froz, varOf, varsOf, bindP, bindPs, truth, noDct, tyIs, evCmp, Ev.vals, fls, anyUn, ownAt, List.set, seqS_id, M.bind_ok, parS, stills, line]; omega)
    have hm := Nat.mod_lt x G.pos
    have step : bodyF tb (cl n) 100 (.var 5) b10in (e10 s c x C acc t) d = some (.nx (e10 s c (x / C.length) C (acc ++ [C.getD (x % C.length) .non]) (some (.fz, d)))) := by
      have hp := G.pos
      have hs := G.small
      have h0 : C ≠ [] := by intro e; rw [e] at hp; simp at hp
      have h1 : (C.length : Int) < 1073741824 := by omega
      have hA : atD C ((x : Int) % (C.length : Int)) = some (C.getD (x % C.length) .non) := by rw [← atD_nat C _ hm]; rfl
      simp only [bodyF, e10, b10in, bindP]
      simp [exSs, exS, evE, evAnd, evOr, evEs, evTs, evO, getS, okM, M.bind, nxM, stP, varP, isBox, outFl, Fl.still, Fl.isUn, froz, varOf, varsOf, bindP, bindPs, truth, noDct, tyIs, evCmp, Ev.vals, fls, anyUn, ownAt, List.set, seqS_id, M.bind_ok, parS, stills, -List.getD_eq_getElem?_getD, t_len, pLen, lenD, evBin, evIdx, fmod_nat, hA, hl, evAug, h1, h0, hp, List.length_pos_iff]
    rw [loop, step]
    simp only
    rw [e, List.append_assoc, List.length_cons, cdg, Nat.pow_succ, Nat.mul_comm, Nat.div_div_eq_div_mul]
    rfl
theorem seq1 {T : Tb} {c : Call} {W : Nat} {env e : Env} {a : CS} {as : CSs} (h : exS T c W env a = some (.nx e)) : exSs T c W env (.cons a as) = exSs T c W e as := by
  rw [exSs, h]; rfl
theorem ret1 {T : Tb} {c : Call} {W : Nat} {env : Env} {e : CE} {x : Fl × D} {r : CSs} (hn : isVar e = false) (h : evE T c env e = some (.ok x)) : exSs T c W env (.cons (.ret e) r) = some (.rt (if x.1 == .fr then .fr else .st) x.2) := by
  have : exS T c W env (.ret e) = some (.rt (if x.1 == .fr then .fr else .st) x.2) := by
    cases e <;> first
      | (rw [exS]
         · rw [h]; rfl
         · intro j h; cases h
         done)
      | (simp [exSs, exS, evE, evAnd, evOr, evEs, evTs, evO, getS, okM, M.bind, nxM, stP, varP, isBox, outFl, Fl.still, Fl.isUn, froz, varOf, varsOf, bindP, bindPs, truth, noDct, tyIs, evCmp, Ev.vals, fls, anyUn, ownAt, List.set, seqS_id, M.bind_ok, parS, stills, isVar] at hn; done)
  rw [exSs, this]; rfl
theorem e10_len (C : List D) (s x : Nat) : (cdg C (s * s) x).reverse.length = s * s := by rw [List.length_reverse, cdg_len]
def blk (rows : List (List D)) : D := .tup (rows.map D.tup)
theorem imm_tup {l : List D} (h : ∀ d ∈ l, imm d = true) : imm (.tup l) = true := by
  have : ∀ l : List D, (∀ d ∈ l, imm d = true) → imms l = true := by
    intro l
    induction l with
    | nil => intro _; rfl
    | cons d l ih => intro h; rw [imms, h d List.mem_cons_self, ih (fun x hx => h x (List.mem_cons_of_mem _ hx))]; rfl
  rw [imm, this l h]
theorem pow_le_sq (L s : Nat) : L ^ (s * s) = L ^ (s * s) := rfl
end K24

end
section
set_option autoImplicit false
set_option linter.all false
set_option maxRecDepth 100000
set_option maxHeartbeats 4000000
namespace K24
open Ev
theorem evE_bin {T : Tb} {c : Call} {env : Env} {o : BOp} {a b : CE} {d1 d2 d : D} (h1 : evE T c env a = some (.ok (.st, d1))) (h2 : evE T c env b = some (.ok (.st, d2))) (h : evBin o d1 d2 = some (false, d)) : evE T c env (.bin o a b) = some (.ok (.st, d)) := by
  rw [evE, h1, M.bind_ok, h2, M.bind_ok]
  simp only [h]
  rfl
theorem evE_call2 {T : Tb} {c : Call} {env : Env} {f : Nat} {a b : CE} {d1 d2 d : D} (h1 : evE T c env a = some (.ok (.st, d1))) (h2 : evE T c env b = some (.ok (.st, d2))) (h : c f [d1, d2] = some (.ok (.st, d))) : evE T c env (.call f (.cons a (.cons b .nil))) = some (.ok (.st, d)) := by
  rw [evE, evEs, h1, M.bind_ok, evEs, h2, M.bind_ok, evEs]
  show (c f [d1, d2]).bind _ = _
  rw [h]
  rfl
theorem evE_call3 {T : Tb} {c : Call} {env : Env} {f : Nat} {a b e : CE} {d1 d2 d3 d : D} (h1 : evE T c env a = some (.ok (.st, d1))) (h2 : evE T c env b = some (.ok (.st, d2))) (h3 : evE T c env e = some (.ok (.st, d3))) (h : c f [d1, d2, d3] = some (.ok (.st, d))) : evE T c env (.call f (.cons a (.cons b (.cons e .nil)))) = some (.ok (.st, d)) := by
  rw [evE, evEs, h1, M.bind_ok, evEs, h2, M.bind_ok, evEs, h3, M.bind_ok, evEs]
  show (c f [d1, d2, d3]).bind _ = _
  rw [h]
  rfl
theorem evE_slc2 {T : Tb} {c : Call} {env : Env} {a lo hi : CE} {f : Fl} {R X : List D} {i j : Int} (h : evE T c env a = some (.ok (f, .lst R))) (hf : f.isUn = false) (h1 : evE T c env lo = some (.ok (.st, .int i))) (h2 : evE T c env hi = some (.ok (.st, .int j))) (hc : cutL R (some i) (some j) = X) : evE T c env (.slc a (.cons lo .nil) (.cons hi .nil)) = some (.ok (.fr, .lst X)) := by
  rw [evE, h, M.bind_ok, evO, h1, M.bind_ok, evO, h2, M.bind_ok]
  simp only [okM, M.bind_ok, evSlc, hc, outFl, hf, Bool.false_eq_true, if_false, if_true]
theorem evE_tuple {c : Call} {env : Env} {a : CE} {f : Fl} {X : List D} (h : evE tb c env a = some (.ok (f, .lst X))) (hf : f.isUn = false) : evE tb c env (.blt 1 (.cons a .nil)) = some (.ok (.st, .tup X)) := by
  rw [evE, evEs, h, M.bind_ok, evEs, okM, M.bind_ok, okM, M.bind_ok, t_tup]
  simp only [pTuple, Ev.vals, fls, anyUn, hf, outFl, Bool.or_false, Bool.false_eq_true, if_false, okM]
theorem comp_eq {T : Tb} {c : Call} {env : Env} {vs : List Nat} {t : Pat} {it : CI} {elt : CE} {b : Bool} {ds : List D} {g : D → D} (hi : evI T c env it = some (.ok (b, ds))) (h : ∀ d ∈ ds, ∃ env1, bindP (wipeE env vs) t d = some env1 ∧ evE T c env1 elt = some (.ok (.st, g d))) (hl : ds.length ≤ 1000) : evE T c env (.comp vs t it .nil elt) = some (.ok (.fr, .lst (ds.map g))) := by
  have hl' : lenLe (ds.map g) line = true := lenLe_of (by rw [List.length_map, line]; omega)
  rw [evE, hi, M.bind_ok]
  simp only
  rw [turns_map (g := g) ds, M.bind_ok]
  · simp only [hl', if_true, okM]
  · intro d hd
    obtain ⟨env1, h1, h2⟩ := h d hd
    rw [h1]
    simp only [evTs, okM, M.bind_ok, if_true, h2, Fl.still, calmM]
theorem comp_rng {T : Tb} {c : Call} {env : Env} {vs : List Nat} {t : Pat} {it : CI} {elt : CE} {b : Bool} {n : Nat} {g : Nat → D} (hi : evI T c env it = some (.ok (b, rangeD 0 n))) (h : ∀ i : Nat, i < n → ∃ env1, bindP (wipeE env vs) t (.int i) = some env1 ∧ evE T c env1 elt = some (.ok (.st, g i))) (hl : n ≤ 1000) : evE T c env (.comp vs t it .nil elt) = some (.ok (.fr, .lst ((List.range n).map g))) := by
  have e : (List.range n).map g = (rangeD 0 n).map (fun d => match d with | .int i => g i.toNat | _ => .non) := by
    rw [rangeD_map, List.map_map]
    apply List.map_congr_left
    intro i _
    simp
  rw [e]
  apply comp_eq hi
  · intro d hd
    rw [rangeD_map] at hd
    obtain ⟨i, hi, rfl⟩ := List.mem_map.mp hd
    have := h i (List.mem_range.mp hi)
    simpa using this
  · rw [rangeD_len]; exact hl
theorem ifS_not {T : Tb} {c : Call} {W : Nat} {env : Env} {e : CE} {a : CSs} {f : Fl} (h : evE T c env e = some (.ok (f, .bl true))) : exS T c W env (.ifS (.not e) a .nil) = some (.nx env) := by
  rw [exS, evE, h]
  rfl
theorem c_at (n : Nat) (s c x : Nat) (h1 : 1 ≤ s) (h2 : s ≤ 6) (h3 : 1 ≤ c) (h4 : c ≤ 8) (hx : x < (cellsD c).length ^ (s * s)) : cl (n + 3) 10 [.int s, .int c, .int x] = some (.ok (.st, blk (lrows (cellsD c) s s x))) := by
  have G := good c h3 h4
  rw [call_def ⟨3, 7, b10⟩ rfl rfl]
  show retM (exSs tb (cl (n + 2)) 100 [some (.fz, .int s), some (.fz, .int c), some (.fz, .int x), none, none, none, none] b10) = _
  have ss : s * s ≤ 36 := Nat.mul_le_mul h2 h2
  have hs64 : small64 (s : Int) = true := by simp [exSs, exS, evE, evAnd, evOr, evEs, evTs, evO, getS, okM, M.bind, nxM, stP, varP, isBox, outFl, Fl.still, Fl.isUn, froz, varOf, varsOf, bindP, bindPs, truth, noDct, tyIs, evCmp, Ev.vals, fls, anyUn, ownAt, List.set, seqS_id, M.bind_ok, parS, stills, small64]; omega
  have hm : evBin .mul (.int s) (.int s) = some (false, .int ((s * s : Nat) : Int)) := by simp [exSs, exS, evE, evAnd, evOr, evEs, evTs, evO, getS, okM, M.bind, nxM, stP, varP, isBox, outFl, Fl.still, Fl.isUn, froz, varOf, varsOf, bindP, bindPs, truth, noDct, tyIs, evCmp, Ev.vals, fls, anyUn, ownAt, List.set, seqS_id, M.bind_ok, parS, stills, evBin, hs64]
  have ck := c_check n s c (by omega) (by omega) (by omega) (by omega)
  have cc := c_cells (n + 1) c h3 h4
  have pw := c_power (n + 1) ((cellsD c).length : Nat) (s * s) (by omega) (by have := G.small; simp [exSs, exS, evE, evAnd, evOr, evEs, evTs, evO, getS, okM, M.bind, nxM, stP, varP, isBox, outFl, Fl.still, Fl.isUn, froz, varOf, varsOf, bindP, bindPs, truth, noDct, tyIs, evCmp, Ev.vals, fls, anyUn, ownAt, List.set, seqS_id, M.bind_ok, parS, stills, small64]; omega)
  have wh := c_whole (n + 1) x 0 (((cellsD c).length : Int) ^ (s * s) - 1)
  have hx' : (x : Int) ≤ ((cellsD c).length : Int) ^ (s * s) - 1 := by
    have : ((x : Nat) : Int) < (((cellsD c).length ^ (s * s) : Nat) : Int) := Int.ofNat_lt.mpr hx
    rw [Int.natCast_pow] at this
    omega
  generalize hC : cellsD c = C at *
  obtain ⟨t', lp⟩ := l10 (n + 2) G (.int s) (.int c) (rangeD 0 (s * s)) x [] none (by rw [rangeD_len]; simp; omega)
  rw [rangeD_len] at lp
  have fr := for_rng (T := tb) (cl := cl (n + 2)) (fu := 100) (e := .bin .mul (.var 0) (.var 0)) (p := .var 5) (b := b10in) (env := e10 (.int s) (.int c) x C [] none) (n := s * s) (evE_bin rfl rfl hm) (by omega)
  have s1 : exS tb (cl (n + 2)) 100 [some (.fz, .int s), some (.fz, .int c), some (.fz, .int x), none, none, none, none] (.expr (.call 6 (.cons (.var 0) (.cons (.var 1) (.cons (.glob 2) (.cons (.glob 5) .nil)))))) = some (.nx [some (.fz, .int s), some (.fz, .int c), some (.fz, .int x), none, none, none, none]) := by
    simp [exSs, exS, evE, evAnd, evOr, evEs, evTs, evO, getS, okM, M.bind, nxM, stP, varP, isBox, outFl, Fl.still, Fl.isUn, froz, varOf, varsOf, bindP, bindPs, truth, noDct, tyIs, evCmp, Ev.vals, fls, anyUn, ownAt, List.set, seqS_id, M.bind_ok, parS, stills, g2, g5, ck]
  have q : evE tb (cl (n + 2)) [some (.fz, .int s), some (.fz, .int c), some (.fz, .int x), some (.ow, .lst C), none, none, none] (.bin .mul (.var 0) (.var 0)) = some (.ok (.st, .int ((s * s : Nat) : Int))) := evE_bin rfl rfl hm
  have L1 : evE tb (cl (n + 2)) [some (.fz, .int s), some (.fz, .int c), some (.fz, .int x), some (.ow, .lst C), none, none, none] (.blt 0 (.cons (.var 3) .nil)) = some (.ok (.st, .int C.length)) := rfl
  have wh' : cl (n + 2) 0 [.int x, .int 0, .int ((C.length : Int) ^ (s * s) - 1)] = some (.ok (.st, .bl true)) := by
    rw [show cl (n + 2) 0 [.int x, .int 0, .int ((C.length : Int) ^ (s * s) - 1)] = _ from wh, decide_eq_true (Int.natCast_nonneg x), decide_eq_true hx', Bool.and_self]
  have L5 := evE_call3 (T := tb) (c := cl (n + 2)) (env := [some (.fz, .int s), some (.fz, .int c), some (.fz, .int x), some (.ow, .lst C), none, none, none]) (a := .var 2) (b := .con (.int 0)) rfl rfl (evE_bin (o := .sub) (b := .con (.int 1)) (evE_call2 L1 q pw) rfl rfl) wh'
  rw [b10, seq1 s1]
  rw [seq1 (e := [some (.fz, .int s), some (.fz, .int c), some (.fz, .int x), some (.ow, .lst C), none, none, none]) (by simp [exSs, exS, evE, evAnd, evOr, evEs, evTs, evO, getS, okM, M.bind, nxM, stP, varP, isBox, outFl, Fl.still, Fl.isUn, froz, varOf, varsOf, bindP, bindPs, truth, noDct, tyIs, evCmp, Ev.vals, fls, anyUn, ownAt, List.set, seqS_id, M.bind_ok, parS, stills, cc])]
  rw [seq1 (e := [some (.fz, .int s), some (.fz, .int c), some (.fz, .int x), some (.ow, .lst C), none, none, none]) (ifS_not L5)]
  rw [seq1 (e := e10 (.int s) (.int c) x C [] none) (by simp [exSs, exS, evE, evAnd, evOr, evEs, evTs, evO, getS, okM, M.bind, nxM, stP, varP, isBox, outFl, Fl.still, Fl.isUn, froz, varOf, varsOf, bindP, bindPs, truth, noDct, tyIs, evCmp, Ev.vals, fls, anyUn, ownAt, List.set, seqS_id, M.bind_ok, parS, stills, e10])]
  rw [b10in] at fr lp
  rw [seq1 (fr.trans lp), List.nil_append]
  rw [seq1 (e := e10 (.int s) (.int c) (x / C.length ^ (s * s)) C (cdg C (s * s) x).reverse t') (by simp [exSs, exS, evE, evAnd, evOr, evEs, evTs, evO, getS, okM, M.bind, nxM, stP, varP, isBox, outFl, Fl.still, Fl.isUn, froz, varOf, varsOf, bindP, bindPs, truth, noDct, tyIs, evCmp, Ev.vals, fls, anyUn, ownAt, List.set, seqS_id, M.bind_ok, parS, stills, e10])]
  have hR := e10_len C s x
  rw [blk, ← chunks_rows C s s x]
  generalize (cdg C (s * s) x).reverse = R at hR ⊢
  generalize x / C.length ^ (s * s) = y
  have cm : evE tb (cl (n + 2)) (e10 (.int s) (.int c) y C R t') (.comp [6] (.var 6) (.rng (.cons (.var 0) .nil)) .nil (.blt 1 (.cons (.slc (.var 4) (.cons (.bin .mul (.var 0) (.var 6)) .nil) (.cons (.bin .add (.bin .mul (.var 0) (.var 6)) (.var 0)) .nil)) .nil))) = some (.ok (.fr, .lst ((chunks s s R).map D.tup))) := by
    have e : (chunks s s R).map D.tup = (List.range s).map fun r => D.tup ((R.drop (s * r)).take s) := by simp [exSs, exS, evE, evAnd, evOr, evEs, evTs, evO, getS, okM, M.bind, nxM, stP, varP, isBox, outFl, Fl.still, Fl.isUn, froz, varOf, varsOf, bindP, bindPs, truth, noDct, tyIs, evCmp, Ev.vals, fls, anyUn, ownAt, List.set, seqS_id, M.bind_ok, parS, stills, chunks]
    rw [e]
    refine comp_rng (g := fun r => D.tup ((R.drop (s * r)).take s)) (hi (e := .var 0) (n := s) rfl (by omega)) (fun i hi => ?_) (by omega)
    have h1 : s * i + s ≤ R.length := by rw [hR, ← Nat.mul_succ]; exact Nat.mul_le_mul_left _ hi
    have hc := cut_nat R (s * i) (s * i + s) (by omega) h1
    rw [Nat.add_sub_cancel_left] at hc
    simp only [Int.natCast_add, Int.natCast_mul] at hc
    have hmi : evBin .mul (.int s) (.int i) = some (false, .int ((s : Int) * (i : Int))) := by
      show (if (small64 s || small64 i) = true then some (false, D.int ((s : Int) * (i : Int))) else none) = _
      rw [hs64, Bool.true_or, if_pos rfl]
    have q : evE tb (cl (n + 2)) [some (.fz, .int s), some (.fz, .int c), some (.fz, .int (y : Int)), some (.ow, .lst C), some (.ow, .lst R), t', some (.fz, .int i)] (.bin .mul (.var 0) (.var 6)) = some (.ok (.st, .int ((s : Int) * (i : Int)))) := evE_bin rfl rfl hmi
    have hE : evE tb (cl (n + 2)) [some (.fz, .int s), some (.fz, .int c), some (.fz, .int (y : Int)), some (.ow, .lst C), some (.ow, .lst R), t', some (.fz, .int i)] (.blt 1 (.cons (.slc (.var 4) (.cons (.bin .mul (.var 0) (.var 6)) .nil) (.cons (.bin .add (.bin .mul (.var 0) (.var 6)) (.var 0)) .nil)) .nil)) = some (.ok (.st, .tup ((R.drop (s * i)).take s))) := evE_tuple (evE_slc2 (f := .ow) (R := R) rfl rfl q (evE_bin (b := .var 0) q rfl rfl) hc) rfl
    have hb : bindP (wipeE (e10 (.int s) (.int c) y C R t') [6]) (.var 6) (.int i) = some [some (.fz, .int s), some (.fz, .int c), some (.fz, .int (y : Int)), some (.ow, .lst C), some (.ow, .lst R), t', some (.fz, .int i)] := rfl
    exact ⟨_, hb, hE⟩
  rw [ret1 rfl (x := (.st, .tup ((chunks s s R).map D.tup)))]
  · simp [exSs, exS, evE, evAnd, evOr, evEs, evTs, evO, getS, okM, M.bind, nxM, stP, varP, isBox, outFl, Fl.still, Fl.isUn, froz, varOf, varsOf, bindP, bindPs, truth, noDct, tyIs, evCmp, Ev.vals, fls, anyUn, ownAt, List.set, seqS_id, M.bind_ok, parS, stills, retM]
  · rw [evE, evEs, cm]
    simp [exSs, exS, evE, evAnd, evOr, evEs, evTs, evO, getS, okM, M.bind, nxM, stP, varP, isBox, outFl, Fl.still, Fl.isUn, froz, varOf, varsOf, bindP, bindPs, truth, noDct, tyIs, evCmp, Ev.vals, fls, anyUn, ownAt, List.set, seqS_id, M.bind_ok, parS, stills, t_tup, pTuple]
end K24

end
section
set_option autoImplicit false
set_option linter.all false
set_option maxRecDepth 100000
set_option maxHeartbeats 4000000
namespace K24
open Ev
def b17a : CSs := (.cons (.asg (.var 6) (.bin .add (.lst (.cons (.idx (.var 4) (.bin .mod (.var 2) (.blt 0 (.cons (.var 4) .nil)))) .nil)) (.var 6))) (.cons (.asg (.var 2) (.bin .fdiv (.var 2) (.blt 0 (.cons (.var 4) .nil)))) .nil))
def b17b : CSs := (.cons (.asg (.var 6) (.lst .nil)) (.cons (.forS (.var 7) (.rng (.cons (.var 0) .nil)) b17a) (.cons (.asg (.var 5) (.bin .add (.lst (.cons (.blt 1 (.cons (.var 6) .nil)) .nil)) (.var 5))) .nil)))
theorem b17_is : b17 = (.cons (.par [4, 5] (.cons (.call 16 (.cons (.var 1) .nil)) (.cons (.lst .nil) .nil))) (.cons (.forS (.var 3) (.rng (.cons (.var 0) .nil)) b17b) (.cons (.ret (.blt 1 (.cons (.var 5) .nil))) .nil))) := rfl
def e17 (s c : D) (x : Nat) (C rows : List D) (t3 t6 t7 : Slot) : Env := [some (.fz, s), some (.fz, c), some (.fz, .int x), t3, some (.ow, .lst C), some (.ow, .lst rows), t6, t7]
theorem l17a (n : Nat) {C : List D} (G : Good C) (s c : D) (rows : List D) (t3 : Slot) : ∀ (ds : List D) (x : Nat) (acc : List D) (t7 : Slot), acc.length + ds.length ≤ 1000 → ∃ t7', loop (bodyF tb (cl n) 100 (.var 7) b17a) ds (e17 s c x C rows t3 (some (.ow, .lst acc)) t7) = some (.nx (e17 s c (x / C.length ^ ds.length) C rows t3 (some (.ow, .lst ((cdg C ds.length x).reverse ++ acc))) t7'))
  | [], x, acc, t, _ => ⟨t, by simp [exSs, exS, evE, evAnd, evOr, evEs, evTs, evO, getS, okM, M.bind, nxM, stP, varP, isBox, outFl, Fl.still, Fl.isUn, froz, varOf, varsOf, bindP, bindPs, truth, noDct, tyIs, evCmp, Ev.vals, fls, anyUn, ownAt, List.set, seqS_id, M.bind_ok, parS, stills, loop, cdg]⟩
  | d :: ds, x, acc, t, h => by
    simp only [List.length_cons] at h
    obtain ⟨t', e⟩ := l17a n G s c rows t3 ds (x / C.length) (C.getD (x % C.length) .non :: acc) (some (.fz, d)) (by simp; omega)
    refine ⟨t', ?_⟩
    have hl : lenLe (C.getD (x % C.length) .non :: acc) line = true := lenLe_of (by simp [exSs, exS, evE, evAnd, evOr, evEs, evTs, evO, getS, okM, M.bind, nxM, stP, varP, isBox, outFl, Fl.still, Fl.isUn, froz, varOf, varsOf, bindP, bindPs, truth, noDct, tyIs, evCmp, Ev.vals, fls, anyUn, ownAt, List.set, seqS_id, M.bind_ok, parS, stills, line]; omega)
    have hm := Nat.mod_lt x G.pos
    have hA : atD C ((x : Int) % (C.length : Int)) = some (C.getD (x % C.length) .non) := by rw [← atD_nat C _ hm]; rfl
    have hp := G.pos
    have hs := G.small
    have h0 : C ≠ [] := by intro e; rw [e] at hp; simp at hp
    have h1 : C.length < 1073741824 := by omega
    have h2 : ((x : Int)).fdiv (C.length : Int) = ((x / C.length : Nat) : Int) := fdiv_nat x _
    have step : bodyF tb (cl n) 100 (.var 7) b17a (e17 s c x C rows t3 (some (.ow, .lst acc)) t) d = some (.nx (e17 s c (x / C.length) C rows t3 (some (.ow, .lst (C.getD (x % C.length) .non :: acc))) (some (.fz, d)))) := by
      simp only [bodyF, e17, b17a, bindP]
      simp [exSs, exS, evE, evAnd, evOr, evEs, evTs, evO, getS, okM, M.bind, nxM, stP, varP, isBox, outFl, Fl.still, Fl.isUn, froz, varOf, varsOf, bindP, bindPs, truth, noDct, tyIs, evCmp, Ev.vals, fls, anyUn, ownAt, List.set, seqS_id, M.bind_ok, parS, stills, -List.getD_eq_getElem?_getD, t_len, pLen, lenD, evBin, evIdx, fmod_nat, hA, hl, h1, h0, hp, h2]
    rw [loop, step]
    simp only
    rw [e, List.length_cons, cdg, List.reverse_cons, List.append_assoc, Nat.pow_succ, Nat.mul_comm, Nat.div_div_eq_div_mul]
    rfl
theorem l17b (n : Nat) {C : List D} (G : Good C) (s : Nat) (hs : s ≤ 6) (c : D) : ∀ (ds : List D) (x : Nat) (rows : List D) (t3 t6 t7 : Slot), rows.length + ds.length ≤ 1000 → ∃ t3' t6' t7', loop (bodyF tb (cl n) 100 (.var 3) b17b) ds (e17 (.int s) c x C rows t3 t6 t7) = some (.nx (e17 (.int s) c (x / (C.length ^ s) ^ ds.length) C ((lrows C s ds.length x).map D.tup ++ rows) t3' t6' t7'))
  | [], x, rows, t3, t6, t7, _ => ⟨t3, t6, t7, by simp [exSs, exS, evE, evAnd, evOr, evEs, evTs, evO, getS, okM, M.bind, nxM, stP, varP, isBox, outFl, Fl.still, Fl.isUn, froz, varOf, varsOf, bindP, bindPs, truth, noDct, tyIs, evCmp, Ev.vals, fls, anyUn, ownAt, List.set, seqS_id, M.bind_ok, parS, stills, loop, lrows]⟩
  | d :: ds, x, rows, t3, t6, t7, h => by
    simp only [List.length_cons] at h
    obtain ⟨a3, a6, a7, e⟩ := l17b n G s hs c ds (x / C.length ^ s) (D.tup (cdg C s x).reverse :: rows) (some (.fz, d)) (some (.ow, .lst (cdg C s x).reverse)) 
      (Classical.choose (l17a n G (.int s) c rows (some (.fz, d)) (rangeD 0 s) x [] t7 (by rw [rangeD_len]; simp; omega))) (by simp; omega)
    have lp := Classical.choose_spec (l17a n G (.int s) c rows (some (.fz, d)) (rangeD 0 s) x [] t7 (by rw [rangeD_len]; simp; omega))
    generalize Classical.choose (l17a n G (.int s) c rows (some (.fz, d)) (rangeD 0 s) x [] t7 (by rw [rangeD_len]; simp; omega)) = b7 at e lp
    rw [rangeD_len, List.append_nil] at lp
    refine ⟨a3, a6, a7, ?_⟩
    have fr := for_rng (T := tb) (cl := cl n) (fu := 100) (e := .var 0) (p := .var 7) (b := b17a) (env := e17 (.int s) c x C rows (some (.fz, d)) (some (.ow, .lst [])) t7) (n := s) rfl (by omega)
    have hl : lenLe (D.tup (cdg C s x).reverse :: rows) line = true := lenLe_of (by simp [exSs, exS, evE, evAnd, evOr, evEs, evTs, evO, getS, okM, M.bind, nxM, stP, varP, isBox, outFl, Fl.still, Fl.isUn, froz, varOf, varsOf, bindP, bindPs, truth, noDct, tyIs, evCmp, Ev.vals, fls, anyUn, ownAt, List.set, seqS_id, M.bind_ok, parS, stills, line]; omega)
    have step : bodyF tb (cl n) 100 (.var 3) b17b (e17 (.int s) c x C rows t3 t6 t7) d = some (.nx (e17 (.int s) c (x / C.length ^ s) C (D.tup (cdg C s x).reverse :: rows) (some (.fz, d)) (some (.ow, .lst (cdg C s x).reverse)) b7)) := by
      show exSs tb (cl n) 100 (e17 (.int s) c x C rows (some (.fz, d)) t6 t7) b17b = _
      rw [b17b, seq1 (e := e17 (.int s) c x C rows (some (.fz, d)) (some (.ow, .lst [])) t7) (by simp [exSs, exS, evE, evAnd, evOr, evEs, evTs, evO, getS, okM, M.bind, nxM, stP, varP, isBox, outFl, Fl.still, Fl.isUn, froz, varOf, varsOf, bindP, bindPs, truth, noDct, tyIs, evCmp, Ev.vals, fls, anyUn, ownAt, List.set, seqS_id, M.bind_ok, parS, stills, e17]), seq1 (fr.trans lp)]
      generalize x / C.length ^ s = y
      simp [exSs, exS, evE, evAnd, evOr, evEs, evTs, evO, getS, okM, M.bind, nxM, stP, varP, isBox, outFl, Fl.still, Fl.isUn, froz, varOf, varsOf, bindP, bindPs, truth, noDct, tyIs, evCmp, Ev.vals, fls, anyUn, ownAt, List.set, seqS_id, M.bind_ok, parS, stills, e17, t_tup, pTuple, evBin, hl]
    rw [loop, step]
    simp only
    rw [e, List.length_cons, lrows, Nat.pow_succ, Nat.mul_comm ((C.length ^ s) ^ ds.length), Nat.div_div_eq_div_mul]
    simp
theorem c_lat (n : Nat) (s c x : Nat) (h2 : s ≤ 6) (h3 : 1 ≤ c) (h4 : c ≤ 8) : cl (n + 3) 17 [.int s, .int c, .int x] = some (.ok (.st, blk (lrows (cellsD c) s s x))) := by
  have G := good c h3 h4
  rw [call_def ⟨3, 8, b17⟩ rfl rfl]
  show retM (exSs tb (cl (n + 2)) 100 [some (.fz, .int s), some (.fz, .int c), some (.fz, .int x), none, none, none, none, none] b17) = _
  have cc := c_lcells n c h3 h4
  generalize hC : cellsD c = C at *
  obtain ⟨a3, a6, a7, lp⟩ := l17b (n + 2) G s h2 (.int c) (rangeD 0 s) x [] none none none (by rw [rangeD_len]; simp; omega)
  rw [rangeD_len, List.append_nil] at lp
  have fr := for_rng (T := tb) (cl := cl (n + 2)) (fu := 100) (e := .var 0) (p := .var 3) (b := b17b) (env := e17 (.int s) (.int c) x C [] none none none) (n := s) rfl (by omega)
  rw [b17_is, seq1 (e := e17 (.int s) (.int c) x C [] none none none) (by simp [exSs, exS, evE, evAnd, evOr, evEs, evTs, evO, getS, okM, M.bind, nxM, stP, varP, isBox, outFl, Fl.still, Fl.isUn, froz, varOf, varsOf, bindP, bindPs, truth, noDct, tyIs, evCmp, Ev.vals, fls, anyUn, ownAt, List.set, seqS_id, M.bind_ok, parS, stills, e17, cc]), seq1 (fr.trans lp), ret1 rfl (evE_tuple (f := .ow) (X := (lrows C s s x).map D.tup) rfl rfl)]
  rfl
end K24

end
section
set_option autoImplicit false
set_option linter.all false
set_option maxRecDepth 100000
set_option maxHeartbeats 4000000
namespace K24
open Ev
def isT : M (Fl × D) → Bool
  | some (.ok (.st, .bl true)) => true
  | _ => false
theorem of_isT {m : M (Fl × D)} (h : isT m = true) : m = some (.ok (.st, .bl true)) := by
  unfold isT at h
  split at h
  · rfl
  · cases h
theorem c_cell (n c : Nat) (h3 : 1 ≤ c) (h4 : c ≤ 8) : ∀ d ∈ cellsD c, cl (n + 2) 2 [d] = some (.ok (.st, .bl true)) := by
  have : (cellsD c).all (fun d => isT (cl (n + 2) 2 [d])) = true := by
    have : c = 1 ∨ c = 2 ∨ c = 3 ∨ c = 4 ∨ c = 5 ∨ c = 6 ∨ c = 7 ∨ c = 8 := by omega
    rcases this with rfl | rfl | rfl | rfl | rfl | rfl | rfl | rfl <;> rfl
  intro d hd
  exact of_isT (List.all_eq_true.mp this d hd)
theorem all_true (ds : List D) : pAll [.lst (ds.map fun _ => D.bl true)] = some (false, .bl true) := by
  have : boolsOf (ds.map fun _ => D.bl true) = some (ds.map fun _ => true) := by
    induction ds with
    | nil => rfl
    | cons d ds ih => rw [List.map_cons, boolsOf, ih]; rfl
  rw [pAll, this]
  simp
theorem evE_all {c : Call} {env : Env} {e : CE} {ds : List D} (h : evE tb c env e = some (.ok (.fr, .lst (ds.map fun _ => D.bl true)))) : evE tb c env (.blt 7 (.cons e .nil)) = some (.ok (.st, .bl true)) := by
  rw [evE, evEs, h, M.bind_ok, evEs, okM, M.bind_ok, okM, M.bind_ok, t_all]
  show (match pAll [.lst (ds.map fun _ => D.bl true)] with | some (f, d) => okM (outFl (anyUn [.fr]) f d, d) | none => none) = _
  rw [all_true]
  rfl
theorem evI_var {T : Tb} {c : Call} {env : Env} {i : Nat} {ds : List D} (h : evE T c env (.var i) = some (.ok (.st, .tup ds))) : evI T c env (.seq (.var i)) = some (.ok (true, ds)) := by
  rw [evI, h]; rfl
structure Sq (C : List D) (rows : List (List D)) : Prop where
  n1 : 1 ≤ rows.length
  n6 : rows.length ≤ 6
  len : ∀ r ∈ rows, r.length = rows.length
  mem : ∀ r ∈ rows, ∀ d ∈ r, d ∈ C
theorem ifS_skip {T : Tb} {c : Call} {W : Nat} {env : Env} {e : CE} {a : CSs} {f : Fl} (h : evE T c env e = some (.ok (f, .bl false))) : exS T c W env (.ifS e a .nil) = some (.nx env) := by
  rw [exS, h]
  rfl
theorem c_isblock (n c : Nat) (h3 : 1 ≤ c) (h4 : c ≤ 8) (rows : List (List D)) (S : Sq (cellsD c) rows) : cl (n + 3) 3 [blk rows] = some (.ok (.st, .bl true)) := by
  have hc := c_cell n c h3 h4
  rw [call_def ⟨1, 3, b3⟩ rfl rfl]
  show retM (exSs tb (cl (n + 2)) 100 [some (.fz, blk rows), none, none] b3) = _
  have n1 := S.n1
  have n6 := S.n6
  have hlen : lenD (blk rows) = some rows.length := by simp [exSs, exS, evE, evAnd, evOr, evEs, evTs, evO, getS, okM, M.bind, nxM, stP, varP, isBox, outFl, Fl.still, Fl.isUn, froz, varOf, varsOf, bindP, bindPs, truth, noDct, tyIs, evCmp, Ev.vals, fls, anyUn, ownAt, List.set, seqS_id, M.bind_ok, parS, stills, lenD, blk]
  have i1 : (1 : Int) ≤ (rows.length : Int) := by omega
  have i2 : (rows.length : Int) ≤ 6 := by omega
  rw [b3]
  rw [seq1 (e := [some (.fz, blk rows), none, none]) (ifS_skip (f := .st) (by
    have hb : tyIs .tuple (blk rows) = true := rfl
    have hd : noDct (blk rows) = true := rfl
    simp [exSs, exS, evE, evAnd, evOr, evEs, evTs, evO, getS, okM, M.bind, nxM, stP, varP, isBox, outFl, Fl.still, Fl.isUn, froz, varOf, varsOf, bindP, bindPs, truth, noDct, tyIs, evCmp, Ev.vals, fls, anyUn, ownAt, List.set, seqS_id, M.bind_ok, parS, stills, -tyIs, -noDct, hb, hd, t_len, pLen, hlen, g2, i1, i2]))]
  have k1 : evE tb (cl (n + 2)) [some (.fz, blk rows), none, none] (.comp [1] (.var 1) (.seq (.var 0)) .nil (.and (.isi (.var 1) .tuple) (.cons (.cmp .eq (.blt 0 (.cons (.var 1) .nil)) (.blt 0 (.cons (.var 0) .nil))) .nil))) = some (.ok (.fr, .lst ((rows.map D.tup).map fun _ => D.bl true))) := by
    refine comp_eq (evI_var (ds := rows.map D.tup) rfl) (fun d hd => ?_) (by simp; omega)
    obtain ⟨r, hr, rfl⟩ := List.mem_map.mp hd
    refine ⟨[some (.fz, blk rows), some (.fz, .tup r), none], rfl, ?_⟩
    have hl := S.len r hr
    have hc : ∀ k : Nat, cmpOk (.int k) = true := fun _ => rfl
    have p1 : pLen [blk rows] = some (false, .int rows.length) := by rw [pLen, hlen]; rfl
    have p2 : pLen [.tup r] = some (false, .int rows.length) := by rw [pLen, lenD, hl]; rfl
    simp [exSs, exS, evE, evAnd, evOr, evEs, evTs, evO, getS, okM, M.bind, nxM, stP, varP, isBox, outFl, Fl.still, Fl.isUn, froz, varOf, varsOf, bindP, bindPs, truth, noDct, tyIs, evCmp, Ev.vals, fls, anyUn, ownAt, List.set, seqS_id, M.bind_ok, parS, stills, t_len, p1, p2, hc, dEq]
  rw [seq1 (e := [some (.fz, blk rows), none, none]) (ifS_not (evE_all k1))]
  have k2 : evE tb (cl (n + 2)) [some (.fz, blk rows), none, none] (.comp [1] (.var 1) (.seq (.var 0)) .nil (.blt 7 (.cons (.comp [2] (.var 2) (.seq (.var 1)) .nil (.call 2 (.cons (.var 2) .nil))) .nil))) = some (.ok (.fr, .lst ((rows.map D.tup).map fun _ => D.bl true))) := by
    refine comp_eq (evI_var (ds := rows.map D.tup) rfl) (fun d hd => ?_) (by simp; omega)
    obtain ⟨r, hr, rfl⟩ := List.mem_map.mp hd
    refine ⟨[some (.fz, blk rows), some (.fz, .tup r), none], rfl, ?_⟩
    have hl := S.len r hr
    refine evE_all (ds := r) (comp_eq (evI_var (ds := r) rfl) (fun d hd => ?_) (by omega))
    refine ⟨[some (.fz, blk rows), some (.fz, .tup r), some (.fz, d)], rfl, ?_⟩
    have := hc d (S.mem r hr d hd)
    simp [exSs, exS, evE, evAnd, evOr, evEs, evTs, evO, getS, okM, M.bind, nxM, stP, varP, isBox, outFl, Fl.still, Fl.isUn, froz, varOf, varsOf, bindP, bindPs, truth, noDct, tyIs, evCmp, Ev.vals, fls, anyUn, ownAt, List.set, seqS_id, M.bind_ok, parS, stills, this]
  rw [ret1 rfl (evE_all k2)]
  rfl
theorem c_checkb (n c : Nat) (h3 : 1 ≤ c) (h4 : c ≤ 8) (rows : List (List D)) (S : Sq (cellsD c) rows) : cl (n + 4) 4 [blk rows] = some (.ok (.st, .non)) := by
  have h := c_isblock n c h3 h4 rows S
  rw [call_def ⟨1, 1, b4⟩ rfl rfl]
  show retM (exSs tb (cl (n + 3)) 100 [some (.fz, blk rows)] b4) = _
  rw [b4, seq1 (e := [some (.fz, blk rows)]) (ifS_not (f := .st) (by simp [exSs, exS, evE, evAnd, evOr, evEs, evTs, evO, getS, okM, M.bind, nxM, stP, varP, isBox, outFl, Fl.still, Fl.isUn, froz, varOf, varsOf, bindP, bindPs, truth, noDct, tyIs, evCmp, Ev.vals, fls, anyUn, ownAt, List.set, seqS_id, M.bind_ok, parS, stills, h]))]
  rfl
theorem turnsF_map {F : D → M (List D)} {g : D → List D} : ∀ ds : List D, (∀ d ∈ ds, F d = some (.ok (g d))) → turnsF F ds = some (.ok (ds.map g).flatten)
  | [], _ => rfl
  | d :: ds, h => by
    rw [turnsF, h d List.mem_cons_self, M.bind_ok, turnsF_map ds (fun x hx => h x (List.mem_cons_of_mem _ hx)), M.bind_ok]
    rfl
theorem c_flat (n : Nat) (rows : List (List D)) (h : rows.flatten.length ≤ 1000) : cl (n + 1) 5 [blk rows] = some (.ok (.fr, .lst rows.flatten)) := by
  rw [call_def ⟨1, 3, b5⟩ rfl rfl]
  show retM (exSs tb (cl n) 100 [some (.fz, blk rows), none, none] b5) = _
  have k : evE tb (cl n) [some (.fz, blk rows), none, none] (.comp2 [1, 2] (.var 1) (.seq (.var 0)) .nil [2] (.var 2) (.seq (.var 1)) .nil (.var 2)) = some (.ok (.fr, .lst rows.flatten)) := by
    have hl : lenLe rows.flatten line = true := lenLe_of (by rw [line]; omega)
    rw [evE, evI_var (ds := rows.map D.tup) rfl, M.bind_ok]
    simp only
    rw [turnsF_map (g := fun d => match d with | .tup r => r | _ => []) (rows.map D.tup), M.bind_ok, List.map_map]
    · have : (fun d => match d with | .tup r => r | _ => []) ∘ D.tup = fun r : List D => r := rfl
      rw [this, List.map_id']
      simp only [hl, if_true, okM]
    · intro d hd
      obtain ⟨r, hr, rfl⟩ := List.mem_map.mp hd
      have e1 : bindP (wipeE [some (.fz, blk rows), none, none] [1, 2]) (.var 1) (.tup r) = some [some (.fz, blk rows), some (.fz, .tup r), none] := rfl
      rw [e1]
      simp only
      rw [evTs, okM, M.bind_ok, if_pos rfl, evI_var (ds := r) rfl, M.bind_ok]
      simp only
      rw [turns_map (g := fun d => d) r]
      · simp [exSs, exS, evE, evAnd, evOr, evEs, evTs, evO, getS, okM, M.bind, nxM, stP, varP, isBox, outFl, Fl.still, Fl.isUn, froz, varOf, varsOf, bindP, bindPs, truth, noDct, tyIs, evCmp, Ev.vals, fls, anyUn, ownAt, List.set, seqS_id, M.bind_ok, parS, stills, calmM]
      · intro d hd
        rfl
  rw [b5, ret1 rfl k]
  rfl
end K24

end
section
set_option autoImplicit false
set_option linter.all false
set_option maxRecDepth 100000
set_option maxHeartbeats 4000000
namespace K24
open Ev
def b11in : CSs := (.cons (.ifS (.cmp .notin (.var 4) (.var 2)) (.cons (.raise 2 (.cons (.con (.str [97, 110, 111, 116, 104, 101, 114, 32, 99, 111, 108, 111, 117, 114])) .nil)) .nil) .nil) (.cons (.asg (.var 3) (.bin .add (.bin .mul (.var 3) (.blt 0 (.cons (.var 2) .nil))) (.mth 2 (.var 2) (.cons (.var 4) .nil)))) .nil))
def e11 (b c : D) (C : List D) (x : Nat) (t : Slot) : Env := [some (.fz, b), some (.fz, c), some (.ow, .lst C), some (.fz, .int x), t]
theorem mul_small (a : Int) {b : Int} (h : small64 b = true) : evBin .mul (.int a) (.int b) = some (false, .int (a * b)) := by
  show (if (small64 a || small64 b) = true then some (false, D.int (a * b)) else none) = _
  rw [h, Bool.or_true, if_pos rfl]
theorem small_len {C : List D} (G : Good C) : small64 ((C.length : Nat) : Int) = true := by have := G.small; simp [exSs, exS, evE, evAnd, evOr, evEs, evTs, evO, getS, okM, M.bind, nxM, stP, varP, isBox, outFl, Fl.still, Fl.isUn, froz, varOf, varsOf, bindP, bindPs, truth, noDct, tyIs, evCmp, Ev.vals, fls, anyUn, ownAt, List.set, seqS_id, M.bind_ok, parS, stills, small64]; omega
theorem index_ok {C : List D} (G : Good C) (d : D) (hd : d ∈ C) : mIndex (.lst C) [d] = some (false, .int (ix d C)) := by
  have h1 := (G.cm d hd).2.2.2
  rw [mIndex, h1, G.cms, G.ix' d hd]
  rfl
theorem l11 (n : Nat) {C : List D} (G : Good C) (b c : D) : ∀ (ds : List D) (x : Nat) (t : Slot), (∀ d ∈ ds, d ∈ C) → ∃ t', loop (bodyF tb (cl n) 100 (.var 4) b11in) ds (e11 b c C x t) = some (.nx (e11 b c C (horner C x ds) t'))
  | [], x, t, _ => ⟨t, by simp [exSs, exS, evE, evAnd, evOr, evEs, evTs, evO, getS, okM, M.bind, nxM, stP, varP, isBox, outFl, Fl.still, Fl.isUn, froz, varOf, varsOf, bindP, bindPs, truth, noDct, tyIs, evCmp, Ev.vals, fls, anyUn, ownAt, List.set, seqS_id, M.bind_ok, parS, stills, loop, horner]⟩
  | d :: ds, x, t, h => by
    have hd := h d List.mem_cons_self
    obtain ⟨t', e⟩ := l11 n G b c ds (x * C.length + ix d C) (some (.fz, d)) (fun y hy => h y (List.mem_cons_of_mem _ hy))
    refine ⟨t', ?_⟩
    have step : bodyF tb (cl n) 100 (.var 4) b11in (e11 b c C x t) d = some (.nx (e11 b c C (x * C.length + ix d C) (some (.fz, d)))) := by
      show exSs tb (cl n) 100 (e11 b c C x (some (.fz, d))) b11in = _
      have k1 : evE tb (cl n) (e11 b c C x (some (.fz, d))) (.cmp .notin (.var 4) (.var 2)) = some (.ok (.st, .bl false)) := by
        have a1 : evE tb (cl n) (e11 b c C x (some (.fz, d))) (.var 4) = some (.ok (.st, d)) := rfl
        have a2 : evE tb (cl n) (e11 b c C x (some (.fz, d))) (.var 2) = some (.ok (.ow, .lst C)) := rfl
        rw [evE, a1, M.bind_ok, a2, M.bind_ok]
        simp only [G.notin d hd, okM]
      have k2 : evE tb (cl n) (e11 b c C x (some (.fz, d))) (.mth 2 (.var 2) (.cons (.var 4) .nil)) = some (.ok (.st, .int (ix d C))) := by
        have a1 : evE tb (cl n) (e11 b c C x (some (.fz, d))) (.var 4) = some (.ok (.st, d)) := rfl
        have a2 : evE tb (cl n) (e11 b c C x (some (.fz, d))) (.var 2) = some (.ok (.ow, .lst C)) := rfl
        rw [evE, t_idx]
        simp only
        rw [a2, M.bind_ok, evEs, a1, M.bind_ok, evEs, okM, M.bind_ok, okM, M.bind_ok]
        show (if true = true then (match mIndex (.lst C) [d] with | some (f, d) => okM (outFl (Fl.ow.isUn || anyUn [.st]) f d, d) | none => none) else none) = _
        rw [index_ok G d hd]
        rfl
      have k3 : evE tb (cl n) (e11 b c C x (some (.fz, d))) (.bin .add (.bin .mul (.var 3) (.blt 0 (.cons (.var 2) .nil))) (.mth 2 (.var 2) (.cons (.var 4) .nil))) = some (.ok (.st, .int ((x : Int) * (C.length : Int) + (ix d C : Int)))) :=
        evE_bin (evE_bin rfl rfl (mul_small x (small_len G))) k2 rfl
      have k4 : ((x : Int) * (C.length : Int) + (ix d C : Int)) = ((x * C.length + ix d C : Nat) : Int) := by simp
      rw [k4] at k3
      rw [b11in, seq1 (e := e11 b c C x (some (.fz, d))) (ifS_skip k1)]
      generalize x * C.length + ix d C = y at k3
      rw [seq1 (e := e11 b c C y (some (.fz, d)))]
      · rfl
      · rw [exS]
        show xp (e11 b c C x (some (.fz, d))) (evE tb (cl n) (e11 b c C x (some (.fz, d))) _) _ = _
        rw [k3]
        rfl
    rw [loop, step]
    simp only
    rw [e]
    rfl
theorem c_num (n c : Nat) (h3 : 1 ≤ c) (h4 : c ≤ 8) (rows : List (List D)) (S : Sq (cellsD c) rows) : cl (n + 5) 11 [blk rows, .int c] = some (.ok (.st, .int (horner (cellsD c) 0 rows.flatten))) := by
  have G := good c h3 h4
  have k4 := c_checkb n c h3 h4 rows S
  have n1 := S.n1
  have n6 := S.n6
  have k6 := c_check (n + 2) rows.length c (by omega) (by omega) (by omega) (by omega)
  have k8 := c_cells (n + 3) c h3 h4
  have fl : rows.flatten.length = rows.length * rows.length := flat_len rows.length rows S.len
  have hss : rows.length * rows.length ≤ 36 := Nat.mul_le_mul n6 n6
  have k5 := c_flat (n + 3) rows (by omega)
  have hm : ∀ d ∈ rows.flatten, d ∈ cellsD c := by
    intro d hd
    obtain ⟨r, hr, h⟩ := List.mem_flatten.mp hd
    exact S.mem r hr d h
  rw [call_def ⟨2, 5, b11⟩ rfl rfl]
  show retM (exSs tb (cl (n + 4)) 100 [some (.fz, blk rows), some (.fz, .int c), none, none, none] b11) = _
  generalize hC : cellsD c = C at *
  obtain ⟨t', lp⟩ := l11 (n + 4) G (blk rows) (.int c) rows.flatten 0 none hm
  have p1 : pLen [blk rows] = some (false, .int rows.length) := by simp [exSs, exS, evE, evAnd, evOr, evEs, evTs, evO, getS, okM, M.bind, nxM, stP, varP, isBox, outFl, Fl.still, Fl.isUn, froz, varOf, varsOf, bindP, bindPs, truth, noDct, tyIs, evCmp, Ev.vals, fls, anyUn, ownAt, List.set, seqS_id, M.bind_ok, parS, stills, pLen, lenD, blk]
  rw [b11, seq1 (e := [some (.fz, blk rows), some (.fz, .int c), none, none, none]) (by simp [exSs, exS, evE, evAnd, evOr, evEs, evTs, evO, getS, okM, M.bind, nxM, stP, varP, isBox, outFl, Fl.still, Fl.isUn, froz, varOf, varsOf, bindP, bindPs, truth, noDct, tyIs, evCmp, Ev.vals, fls, anyUn, ownAt, List.set, seqS_id, M.bind_ok, parS, stills, k4])]
  rw [seq1 (e := [some (.fz, blk rows), some (.fz, .int c), none, none, none]) (by simp [exSs, exS, evE, evAnd, evOr, evEs, evTs, evO, getS, okM, M.bind, nxM, stP, varP, isBox, outFl, Fl.still, Fl.isUn, froz, varOf, varsOf, bindP, bindPs, truth, noDct, tyIs, evCmp, Ev.vals, fls, anyUn, ownAt, List.set, seqS_id, M.bind_ok, parS, stills, t_len, p1, g2, g5, k6])]
  rw [seq1 (e := [some (.fz, blk rows), some (.fz, .int c), some (.ow, .lst C), none, none]) (by simp [exSs, exS, evE, evAnd, evOr, evEs, evTs, evO, getS, okM, M.bind, nxM, stP, varP, isBox, outFl, Fl.still, Fl.isUn, froz, varOf, varsOf, bindP, bindPs, truth, noDct, tyIs, evCmp, Ev.vals, fls, anyUn, ownAt, List.set, seqS_id, M.bind_ok, parS, stills, k8])]
  rw [seq1 (e := e11 (blk rows) (.int c) C 0 none) (by simp [exSs, exS, evE, evAnd, evOr, evEs, evTs, evO, getS, okM, M.bind, nxM, stP, varP, isBox, outFl, Fl.still, Fl.isUn, froz, varOf, varsOf, bindP, bindPs, truth, noDct, tyIs, evCmp, Ev.vals, fls, anyUn, ownAt, List.set, seqS_id, M.bind_ok, parS, stills, e11])]
  have a5 : evE tb (cl (n + 4)) (e11 (blk rows) (.int c) C 0 none) (.call 5 (.cons (.var 0) .nil)) = some (.ok (.fr, .lst rows.flatten)) := by
    have a0 : evE tb (cl (n + 4)) (e11 (blk rows) (.int c) C 0 none) (.var 0) = some (.ok (.st, blk rows)) := rfl
    rw [evE, evEs, a0, M.bind_ok, evEs, okM, M.bind_ok, okM, M.bind_ok]
    show (cl (n + 4) 5 [blk rows]).bind _ = _
    rw [k5]
    rfl
  have fr : exS tb (cl (n + 4)) 100 (e11 (blk rows) (.int c) C 0 none) (.forS (.var 4) (.seq (.call 5 (.cons (.var 0) .nil))) b11in) = loop (bodyF tb (cl (n + 4)) 100 (.var 4) b11in) rows.flatten (e11 (blk rows) (.int c) C 0 none) := by
    rw [exS_for]
    simp only [ciVars, froz, varOf]
    rw [evI, a5, M.bind_ok]
    rfl
  rw [b11in] at fr lp
  rw [seq1 (fr.trans lp)]
  generalize horner C 0 rows.flatten = z
  rfl
end K24

end
section
set_option autoImplicit false
set_option linter.all false
set_option maxRecDepth 100000
set_option maxHeartbeats 4000000
namespace K24
open Ev
def nm : Nat → D
  | 4 => .str [115, 105, 122, 101]
  | 5 => .str [110, 117, 109, 98, 101, 114]
  | 1 => .str [112, 108, 97, 99, 101]
  | 3 => .str [98, 108, 111, 99, 107]
  | _ => .str [99, 111, 108, 111, 117, 114]
theorem eq00 : evCmp .eq (.int 0) (.int 0) = some true := rfl
theorem eq10 : evCmp .eq (.int 1) (.int 0) = some false := rfl
theorem sub_at : tb.sub = sub := rfl
theorem hand (env : Env) (k : Nat) (p : List D) (hk : k = 1 ∨ k = 2 ∨ k = 3 ∨ k = 4 ∨ k = 5) : handle tb env k p [([4], (.ret (.str [115, 105, 122, 101]))), ([5], (.ret (.str [110, 117, 109, 98, 101, 114]))), ([1], (.ret (.str [112, 108, 97, 99, 101]))), ([3], (.ret (.str [98, 108, 111, 99, 107]))), ([0], (.isi 2 (.str [99, 111, 108, 111, 117, 114]) (.str [111, 116, 104, 101, 114])))] = some (.rt .st (nm k)) := by
  rcases hk with rfl | rfl | rfl | rfl | rfl <;> rfl
theorem first0 (n k : Nat) (hk : k = 1 ∨ k = 2 ∨ k = 3 ∨ k = 4 ∨ k = 5) (a b w : D) (p : List D) (h : cl n 10 [a, b, w] = some (.ex k p)) : cl (n + 1) 18 [.int 0, a, b, w] = some (.ok (.st, nm k)) := by
  rw [call_def ⟨4, 5, b18⟩ rfl rfl]
  show retM (exSs tb (cl n) 100 [some (.fz, .int 0), some (.fz, a), some (.fz, b), some (.fz, w), none] b18) = _
  have s : exSs tb (cl n) 100 [some (.fz, .int 0), some (.fz, a), some (.fz, b), some (.fz, w), none] (.cons (.ifS (.cmp .eq (.var 0) (.con (.int 0))) (.cons (.expr (.call 10 (.cons (.var 1) (.cons (.var 2) (.cons (.var 3) .nil))))) .nil) (.cons (.expr (.call 11 (.cons (.var 1) (.cons (.var 2) .nil)))) .nil)) .nil) = some (.ex [some (.fz, .int 0), some (.fz, a), some (.fz, b), some (.fz, w), none] k p) := by
    have c0 : evE tb (cl n) [some (.fz, .int 0), some (.fz, a), some (.fz, b), some (.fz, w), none] (.cmp .eq (.var 0) (.con (.int 0))) = some (.ok (.st, .bl true)) := rfl
    rw [exSs, exS, c0]
    simp [exSs, exS, evE, evAnd, evOr, evEs, evTs, evO, getS, okM, M.bind, nxM, stP, varP, isBox, outFl, Fl.still, Fl.isUn, froz, varOf, varsOf, bindP, bindPs, truth, noDct, tyIs, evCmp, Ev.vals, fls, anyUn, ownAt, List.set, seqS_id, M.bind_ok, parS, stills, -evCmp, h, xp_ex, xp_ok]
  rw [b18, exSs, exS, s]
  simp only
  rw [hand _ k p hk]
  rfl
theorem first1 (n k : Nat) (hk : k = 1 ∨ k = 2 ∨ k = 3 ∨ k = 4 ∨ k = 5) (a b w : D) (p : List D) (h : cl n 11 [a, b] = some (.ex k p)) : cl (n + 1) 18 [.int 1, a, b, w] = some (.ok (.st, nm k)) := by
  rw [call_def ⟨4, 5, b18⟩ rfl rfl]
  show retM (exSs tb (cl n) 100 [some (.fz, .int 1), some (.fz, a), some (.fz, b), some (.fz, w), none] b18) = _
  have s : exSs tb (cl n) 100 [some (.fz, .int 1), some (.fz, a), some (.fz, b), some (.fz, w), none] (.cons (.ifS (.cmp .eq (.var 0) (.con (.int 0))) (.cons (.expr (.call 10 (.cons (.var 1) (.cons (.var 2) (.cons (.var 3) .nil))))) .nil) (.cons (.expr (.call 11 (.cons (.var 1) (.cons (.var 2) .nil)))) .nil)) .nil) = some (.ex [some (.fz, .int 1), some (.fz, a), some (.fz, b), some (.fz, w), none] k p) := by
    have c0 : evE tb (cl n) [some (.fz, .int 1), some (.fz, a), some (.fz, b), some (.fz, w), none] (.cmp .eq (.var 0) (.con (.int 0))) = some (.ok (.st, .bl false)) := rfl
    rw [exSs, exS, c0]
    simp [exSs, exS, evE, evAnd, evOr, evEs, evTs, evO, getS, okM, M.bind, nxM, stP, varP, isBox, outFl, Fl.still, Fl.isUn, froz, varOf, varsOf, bindP, bindPs, truth, noDct, tyIs, evCmp, Ev.vals, fls, anyUn, ownAt, List.set, seqS_id, M.bind_ok, parS, stills, -evCmp, h, xp_ex, xp_ok]
  rw [b18, exSs, exS, s]
  simp only
  rw [hand _ k p hk]
  rfl
theorem seqX {T : Tb} {c : Call} {W : Nat} {env e : Env} {a : CS} {as : CSs} {k : Nat} {p : List D} (h : exS T c W env a = some (.ex e k p)) : exSs T c W env (.cons a as) = some (.ex e k p) := by
  rw [exSs, h]; rfl
theorem w_bad (n : Nat) (w : D) (l h : Int) (hw : w = .bl true ∨ w = .non ∨ w = .str [48] ∨ w = .str [50]) : cl (n + 1) 0 [w, .int l, .int h] = some (.ok (.st, .bl false)) := by
  rcases hw with rfl | rfl | rfl | rfl <;> rfl
theorem w_out (n : Nat) (v l h : Int) (hv : v < l ∨ h < v) : cl (n + 1) 0 [.int v, .int l, .int h] = some (.ok (.st, .bl false)) := by
  rw [c_whole]
  rcases hv with hv | hv
  · rw [decide_eq_false (by omega : ¬ l ≤ v), Bool.false_and]
  · rw [decide_eq_false (by omega : ¬ v ≤ h), Bool.and_false]
theorem check_num (n : Nat) (s : Int) (w : D) (h1 : 1 ≤ s) (h2 : s ≤ 6) (hw : cl (n + 1) 0 [w, .int 1, .int 8] = some (.ok (.st, .bl false))) : ∃ p, cl (n + 2) 6 [.int s, w, .int 6, .int 8] = some (.ex 5 p) := by
  rw [call_def ⟨4, 4, b6⟩ rfl rfl]
  have e1 := c_whole n s 1 6
  simp [exSs, exS, evE, evAnd, evOr, evEs, evTs, evO, getS, okM, M.bind, nxM, stP, varP, isBox, outFl, Fl.still, Fl.isUn, froz, varOf, varsOf, bindP, bindPs, truth, noDct, tyIs, evCmp, Ev.vals, fls, anyUn, ownAt, List.set, seqS_id, M.bind_ok, parS, stills, h1, h2] at e1
  simp [exSs, exS, evE, evAnd, evOr, evEs, evTs, evO, getS, okM, M.bind, nxM, stP, varP, isBox, outFl, Fl.still, Fl.isUn, froz, varOf, varsOf, bindP, bindPs, truth, noDct, tyIs, evCmp, Ev.vals, fls, anyUn, ownAt, List.set, seqS_id, M.bind_ok, parS, stills, b6, frameOf, e1, hw, retM, xp_ex]
theorem check_size (n : Nat) (w c : D) (hw : cl (n + 1) 0 [w, .int 1, .int 6] = some (.ok (.st, .bl false))) : ∃ p, cl (n + 2) 6 [w, c, .int 6, .int 8] = some (.ex 4 p) := by
  rw [call_def ⟨4, 4, b6⟩ rfl rfl]
  simp [exSs, exS, evE, evAnd, evOr, evEs, evTs, evO, getS, okM, M.bind, nxM, stP, varP, isBox, outFl, Fl.still, Fl.isUn, froz, varOf, varsOf, bindP, bindPs, truth, noDct, tyIs, evCmp, Ev.vals, fls, anyUn, ownAt, List.set, seqS_id, M.bind_ok, parS, stills, b6, frameOf, hw, retM, xp_ex]
theorem at_ex (n k : Nat) (s c w : D) (p : List D) (h : cl n 6 [s, c, .int 6, .int 8] = some (.ex k p)) : cl (n + 1) 10 [s, c, w] = some (.ex k p) := by
  rw [call_def ⟨3, 7, b10⟩ rfl rfl]
  show retM (exSs tb (cl n) 100 [some (.fz, s), some (.fz, c), some (.fz, w), none, none, none, none] b10) = _
  rw [b10, seqX (e := [some (.fz, s), some (.fz, c), some (.fz, w), none, none, none, none]) (k := k) (p := p) (by simp [exSs, exS, evE, evAnd, evOr, evEs, evTs, evO, getS, okM, M.bind, nxM, stP, varP, isBox, outFl, Fl.still, Fl.isUn, froz, varOf, varsOf, bindP, bindPs, truth, noDct, tyIs, evCmp, Ev.vals, fls, anyUn, ownAt, List.set, seqS_id, M.bind_ok, parS, stills, g2, g5, h, xp_ex])]
  rfl
theorem num_ex (n k : Nat) (b c : D) (p : List D) (h : cl n 4 [b] = some (.ex k p)) : cl (n + 1) 11 [b, c] = some (.ex k p) := by
  rw [call_def ⟨2, 5, b11⟩ rfl rfl]
  show retM (exSs tb (cl n) 100 [some (.fz, b), some (.fz, c), none, none, none] b11) = _
  rw [b11, seqX (e := [some (.fz, b), some (.fz, c), none, none, none]) (k := k) (p := p) (by simp [exSs, exS, evE, evAnd, evOr, evEs, evTs, evO, getS, okM, M.bind, nxM, stP, varP, isBox, outFl, Fl.still, Fl.isUn, froz, varOf, varsOf, bindP, bindPs, truth, noDct, tyIs, evCmp, Ev.vals, fls, anyUn, ownAt, List.set, seqS_id, M.bind_ok, parS, stills, h, xp_ex])]
  rfl
theorem num_ex6 (n k : Nat) (rows : List (List D)) (c : D) (p : List D) (h4 : cl n 4 [blk rows] = some (.ok (.st, .non))) (h : cl n 6 [.int rows.length, c, .int 6, .int 8] = some (.ex k p)) : cl (n + 1) 11 [blk rows, c] = some (.ex k p) := by
  rw [call_def ⟨2, 5, b11⟩ rfl rfl]
  show retM (exSs tb (cl n) 100 [some (.fz, blk rows), some (.fz, c), none, none, none] b11) = _
  have p1 : pLen [blk rows] = some (false, .int rows.length) := by simp [exSs, exS, evE, evAnd, evOr, evEs, evTs, evO, getS, okM, M.bind, nxM, stP, varP, isBox, outFl, Fl.still, Fl.isUn, froz, varOf, varsOf, bindP, bindPs, truth, noDct, tyIs, evCmp, Ev.vals, fls, anyUn, ownAt, List.set, seqS_id, M.bind_ok, parS, stills, pLen, lenD, blk]
  rw [b11, seq1 (e := [some (.fz, blk rows), some (.fz, c), none, none, none]) (by simp [exSs, exS, evE, evAnd, evOr, evEs, evTs, evO, getS, okM, M.bind, nxM, stP, varP, isBox, outFl, Fl.still, Fl.isUn, froz, varOf, varsOf, bindP, bindPs, truth, noDct, tyIs, evCmp, Ev.vals, fls, anyUn, ownAt, List.set, seqS_id, M.bind_ok, parS, stills, h4]), seqX (e := [some (.fz, blk rows), some (.fz, c), none, none, none]) (k := k) (p := p) (by simp [exSs, exS, evE, evAnd, evOr, evEs, evTs, evO, getS, okM, M.bind, nxM, stP, varP, isBox, outFl, Fl.still, Fl.isUn, froz, varOf, varsOf, bindP, bindPs, truth, noDct, tyIs, evCmp, Ev.vals, fls, anyUn, ownAt, List.set, seqS_id, M.bind_ok, parS, stills, t_len, p1, g2, g5, h, xp_ex])]
  rfl
theorem bad_lst (n : Nat) (l : List D) : ∃ p, cl (n + 4) 4 [.lst l] = some (.ex 3 p) := ⟨_, rfl⟩
theorem bad_non (n : Nat) : ∃ p, cl (n + 4) 4 [.non] = some (.ex 3 p) := ⟨_, rfl⟩
theorem bad_nil (n : Nat) : ∃ p, cl (n + 4) 4 [.tup []] = some (.ex 3 p) := ⟨_, rfl⟩
theorem bad_tup (n : Nat) : ∃ p, cl (n + 4) 4 [.tup [.tup [.non]]] = some (.ex 3 p) := ⟨_, rfl⟩
theorem bad_int (n : Nat) : ∃ p, cl (n + 4) 4 [.int 7] = some (.ex 3 p) := ⟨_, rfl⟩
theorem zz_colour (n : Nat) : cl (n + 8) 18 [.int 1, .tup [.tup [.str [122, 122]]], .int 4, .non] = some (.ok (.st, nm 2)) := rfl
end K24

end
section
set_option autoImplicit false
set_option linter.all false
set_option maxRecDepth 100000
set_option maxHeartbeats 4000000
namespace K24
open Ev
theorem c_count (n s c : Nat) (h1 : 1 ≤ s) (h2 : s ≤ 6) (h3 : 1 ≤ c) (h4 : c ≤ 8) : cl (n + 3) 9 [.int s, .int c] = some (.ok (.st, .int (((cellsD c).length ^ (s * s) : Nat) : Int))) := by
  have G := good c h3 h4
  rw [call_def ⟨2, 2, b9⟩ rfl rfl]
  show retM (exSs tb (cl (n + 2)) 100 [some (.fz, .int s), some (.fz, .int c)] b9) = _
  have ss : s * s ≤ 36 := Nat.mul_le_mul h2 h2
  have hs64 : small64 (s : Int) = true := by simp [exSs, exS, evE, evAnd, evOr, evEs, evTs, evO, getS, okM, M.bind, nxM, stP, varP, isBox, outFl, Fl.still, Fl.isUn, froz, varOf, varsOf, bindP, bindPs, truth, noDct, tyIs, evCmp, Ev.vals, fls, anyUn, ownAt, List.set, seqS_id, M.bind_ok, parS, stills, small64]; omega
  have hm : evBin .mul (.int s) (.int s) = some (false, .int ((s * s : Nat) : Int)) := by rw [mul_small _ hs64, Int.natCast_mul]
  have ck := c_check n s c (by omega) (by omega) (by omega) (by omega)
  have cc := c_cells (n + 1) c h3 h4
  have pw := c_power (n + 1) ((cellsD c).length : Nat) (s * s) (by omega) (small_len G)
  rw [Int.natCast_pow]
  generalize hC : cellsD c = C at *
  have L1 : evE tb (cl (n + 2)) [some (.fz, .int s), some (.fz, .int c)] (.blt 0 (.cons (.call 8 (.cons (.var 1) .nil)) .nil)) = some (.ok (.st, .int C.length)) := by
    simp [exSs, exS, evE, evAnd, evOr, evEs, evTs, evO, getS, okM, M.bind, nxM, stP, varP, isBox, outFl, Fl.still, Fl.isUn, froz, varOf, varsOf, bindP, bindPs, truth, noDct, tyIs, evCmp, Ev.vals, fls, anyUn, ownAt, List.set, seqS_id, M.bind_ok, parS, stills, cc, t_len, pLen, lenD]
  have s1 : exS tb (cl (n + 2)) 100 [some (.fz, .int s), some (.fz, .int c)] (.expr (.call 6 (.cons (.var 0) (.cons (.var 1) (.cons (.glob 2) (.cons (.glob 5) .nil)))))) = some (.nx [some (.fz, .int s), some (.fz, .int c)]) := by
    simp [exSs, exS, evE, evAnd, evOr, evEs, evTs, evO, getS, okM, M.bind, nxM, stP, varP, isBox, outFl, Fl.still, Fl.isUn, froz, varOf, varsOf, bindP, bindPs, truth, noDct, tyIs, evCmp, Ev.vals, fls, anyUn, ownAt, List.set, seqS_id, M.bind_ok, parS, stills, g2, g5, ck]
  rw [b9, seq1 s1, ret1 rfl (evE_call2 L1 (evE_bin (o := .mul) (a := .var 0) (b := .var 0) rfl rfl hm) pw)]
  rfl
theorem at_place (n s c : Nat) (h1 : 1 ≤ s) (h2 : s ≤ 6) (h3 : 1 ≤ c) (h4 : c ≤ 8) (w : D) (hw : cl (n + 2) 0 [w, .int 0, .int (((cellsD c).length : Int) ^ (s * s) - 1)] = some (.ok (.st, .bl false))) : ∃ p, cl (n + 3) 10 [.int s, .int c, w] = some (.ex 1 p) := by
  have G := good c h3 h4
  rw [call_def ⟨3, 7, b10⟩ rfl rfl]
  show ∃ p, retM (exSs tb (cl (n + 2)) 100 [some (.fz, .int s), some (.fz, .int c), some (.fz, w), none, none, none, none] b10) = _
  have ss : s * s ≤ 36 := Nat.mul_le_mul h2 h2
  have hs64 : small64 (s : Int) = true := by simp [exSs, exS, evE, evAnd, evOr, evEs, evTs, evO, getS, okM, M.bind, nxM, stP, varP, isBox, outFl, Fl.still, Fl.isUn, froz, varOf, varsOf, bindP, bindPs, truth, noDct, tyIs, evCmp, Ev.vals, fls, anyUn, ownAt, List.set, seqS_id, M.bind_ok, parS, stills, small64]; omega
  have hm : evBin .mul (.int s) (.int s) = some (false, .int ((s * s : Nat) : Int)) := by rw [mul_small _ hs64, Int.natCast_mul]
  have ck := c_check n s c (by omega) (by omega) (by omega) (by omega)
  have cc := c_cells (n + 1) c h3 h4
  have pw := c_power (n + 1) ((cellsD c).length : Nat) (s * s) (by omega) (small_len G)
  generalize hC : cellsD c = C at *
  have s1 : exS tb (cl (n + 2)) 100 [some (.fz, .int s), some (.fz, .int c), some (.fz, w), none, none, none, none] (.expr (.call 6 (.cons (.var 0) (.cons (.var 1) (.cons (.glob 2) (.cons (.glob 5) .nil)))))) = some (.nx [some (.fz, .int s), some (.fz, .int c), some (.fz, w), none, none, none, none]) := by
    simp [exSs, exS, evE, evAnd, evOr, evEs, evTs, evO, getS, okM, M.bind, nxM, stP, varP, isBox, outFl, Fl.still, Fl.isUn, froz, varOf, varsOf, bindP, bindPs, truth, noDct, tyIs, evCmp, Ev.vals, fls, anyUn, ownAt, List.set, seqS_id, M.bind_ok, parS, stills, g2, g5, ck]
  have q : evE tb (cl (n + 2)) [some (.fz, .int s), some (.fz, .int c), some (.fz, w), some (.ow, .lst C), none, none, none] (.bin .mul (.var 0) (.var 0)) = some (.ok (.st, .int ((s * s : Nat) : Int))) := evE_bin rfl rfl hm
  have L1 : evE tb (cl (n + 2)) [some (.fz, .int s), some (.fz, .int c), some (.fz, w), some (.ow, .lst C), none, none, none] (.blt 0 (.cons (.var 3) .nil)) = some (.ok (.st, .int C.length)) := rfl
  have L5 := evE_call3 (T := tb) (c := cl (n + 2)) (env := [some (.fz, .int s), some (.fz, .int c), some (.fz, w), some (.ow, .lst C), none, none, none]) (a := .var 2) (b := .con (.int 0)) rfl rfl (evE_bin (o := .sub) (b := .con (.int 1)) (evE_call2 L1 q pw) rfl rfl) hw
  refine ⟨[.str [110, 111, 116, 32, 116, 104, 101, 32, 110, 117, 109, 98, 101, 114, 32, 111, 102, 32, 97, 32, 98, 108, 111, 99, 107]], ?_⟩
  rw [b10, seq1 s1, seq1 (e := [some (.fz, .int s), some (.fz, .int c), some (.fz, w), some (.ow, .lst C), none, none, none]) (by simp [exSs, exS, evE, evAnd, evOr, evEs, evTs, evO, getS, okM, M.bind, nxM, stP, varP, isBox, outFl, Fl.still, Fl.isUn, froz, varOf, varsOf, bindP, bindPs, truth, noDct, tyIs, evCmp, Ev.vals, fls, anyUn, ownAt, List.set, seqS_id, M.bind_ok, parS, stills, cc])]
  rw [seqX (e := [some (.fz, .int s), some (.fz, .int c), some (.fz, w), some (.ow, .lst C), none, none, none]) (k := 1) (p := [.str [110, 111, 116, 32, 116, 104, 101, 32, 110, 117, 109, 98, 101, 114, 32, 111, 102, 32, 97, 32, 98, 108, 111, 99, 107]]) (by
    rw [exS, evE, L5]
    rfl)]
  rfl
/-! ### the law's own block -/
def BC : List D := [.str [97], .str [98, 98], .str [99], .str [100]] ++ ([([97], [98, 98]), ([97], [99]), ([97], [100]), ([98, 98], [97]), ([98, 98], [99]), ([98, 98], [100]), ([99], [97]), ([99], [98, 98]), ([99], [100]), ([100], [97]), ([100], [98, 98]), ([100], [99])].flatMap fun p => [D.tup [.str [47], .str p.1, .str p.2], D.tup [.str [92], .str p.1, .str p.2]])
def plD (d : D) : D := match callN tb Pg 100 1 19 [d] with
  | some (.ok (_, e)) => e
  | _ => .non
def eqL : D → D → Bool
  | .str x, .str y => x == y
  | .tup [.str x, .str y, .str z], .tup [.str x', .str y', .str z'] => x == x' && (y == y' && z == z')
  | _, _ => false
theorem of_eqL {a b : D} (h : eqL a b = true) : a = b := by
  unfold eqL at h
  split at h
  · rw [eq_of_beq h]
  · rw [Bool.and_eq_true, Bool.and_eq_true] at h
    rw [eq_of_beq h.1, eq_of_beq h.2.1, eq_of_beq h.2.2]
  · exact absurd h (by simp)
theorem c_letter (n : Nat) : ∀ d ∈ BC, cl (n + 1) 19 [d] = some (.ok (.st, plD d)) := by
  intro d hd
  simp only [BC, List.mem_append, List.mem_cons, List.mem_flatMap, List.not_mem_nil, or_false] at hd
  rcases hd with (rfl | rfl | rfl | rfl) | ⟨p, hp, hd⟩
  · rfl
  · rfl
  · rfl
  · rfl
  · rcases hp with rfl | rfl | rfl | rfl | rfl | rfl | rfl | rfl | rfl | rfl | rfl | rfl <;> (rcases hd with rfl | rfl) <;> rfl
theorem pl_mem : ∀ d ∈ BC, plD d ∈ cellsD 4 := by
  have k : BC.all (fun d => (cellsD 4).any fun e => eqL (plD d) e) = true := by decide +kernel
  intro d hd
  have := List.all_eq_true.mp k d hd
  obtain ⟨e, he, h⟩ := List.any_eq_true.mp this
  rw [of_eqL h]; exact he
end K24

end
section
set_option autoImplicit false
set_option linter.all false
set_option maxRecDepth 100000
set_option maxHeartbeats 4000000
namespace K24
open Ev
def L4 : List D := [.str [97], .str [98, 98], .str [99], .str [100]]
def w15c : CE := (.ite (.or (.cmp .eq (.var 9) (.var 10)) (.cons (.cmp .eq (.bin .mod (.bin .fdiv (.var 8) (.con (.int 16))) (.con (.int 3))) (.con (.int 0))) .nil)) (.var 9) (.tup (.cons (.idx (.lst (.cons (.call 13 .nil) (.cons (.call 14 .nil) .nil))) (.bin .mod (.bin .fdiv (.var 8) (.con (.int 48))) (.con (.int 2)))) (.cons (.var 9) (.cons (.var 10) .nil)))))
def b15a : CSs := (.cons (.asg (.var 8) (.bin .fdiv (.blt 10 (.cons (.idx (.var 0) (.bin .mod (.bin .add (.bin .mul (.var 1) (.var 3)) (.var 7)) (.blt 0 (.cons (.var 0) .nil)))) .nil)) (.bin .add (.con (.int 1)) (.var 3)))) (.cons (.par [9, 10] (.cons (.idx (.var 4) (.bin .mod (.var 8) (.var 2))) (.cons (.idx (.var 4) (.bin .mod (.bin .fdiv (.var 8) (.con (.int 4))) (.var 2))) .nil))) (.cons (.app 6 w15c) .nil)))
def b15b : CSs := (.cons (.asg (.var 6) (.lst .nil)) (.cons (.forS (.var 7) (.rng (.cons (.var 1) .nil)) b15a) (.cons (.app 5 (.blt 1 (.cons (.var 6) .nil))) .nil)))
theorem b15_is : b15 = (.cons (.par [4, 5] (.cons (.slc (.lst (.cons (.con (.str [97])) (.cons (.con (.str [98, 98])) (.cons (.con (.str [99])) (.cons (.con (.str [100])) .nil))))) .nil (.cons (.var 2) .nil)) (.cons (.lst .nil) .nil))) (.cons (.forS (.var 3) (.rng (.cons (.var 1) .nil)) b15b) (.cons (.ret (.blt 1 (.cons (.var 5) .nil))) .nil))) := rfl
def Wd (ws : List Nat) : List D := ws.map fun x => D.int (x : Nat)
def e15 (ws : List Nat) (s c : Nat) (Lt rows acc : List D) (t3 t7 t8 t9 t10 : Slot) : Env := [some (.fz, .lst (Wd ws)), some (.fz, .int s), some (.fz, .int c), t3, some (.ow, .lst Lt), some (.ow, .lst rows), some (.ow, .lst acc), t7, t8, t9, t10]
theorem c13 (n : Nat) : cl (n + 1) 13 [] = some (.ok (.st, .str [47])) := rfl
theorem c14 (n : Nat) : cl (n + 1) 14 [] = some (.ok (.st, .str [92])) := rfl
theorem val15 (n q : Nat) (ws : List Nat) (s c : Nat) (Lt rows acc : List D) (t3 t7 : Slot) (a b : D) (ha : a ∈ L4) (hb : b ∈ L4) : ∃ d ∈ BC, evE tb (cl (n + 1)) (e15 ws s c Lt rows acc t3 t7 (some (.fz, .int q)) (some (.fz, a)) (some (.fz, b))) w15c = some (.ok (.st, d)) := by
  have a9 : evE tb (cl (n + 1)) (e15 ws s c Lt rows acc t3 t7 (some (.fz, .int q)) (some (.fz, a)) (some (.fz, b))) (.var 9) = some (.ok (.st, a)) := rfl
  have a10 : evE tb (cl (n + 1)) (e15 ws s c Lt rows acc t3 t7 (some (.fz, .int q)) (some (.fz, a)) (some (.fz, b))) (.var 10) = some (.ok (.st, b)) := rfl
  have e1 : evE tb (cl (n + 1)) (e15 ws s c Lt rows acc t3 t7 (some (.fz, .int q)) (some (.fz, a)) (some (.fz, b))) (.bin .mod (.bin .fdiv (.var 8) (.con (.int 16))) (.con (.int 3))) = some (.ok (.st, .int ((q / 16 % 3 : Nat) : Int))) := by
    have h1 : ((q : Int)).fdiv 16 = ((q / 16 : Nat) : Int) := fdiv_nat q 16
    have h2 : (((q / 16 : Nat) : Int)).fmod 3 = ((q / 16 % 3 : Nat) : Int) := fmod_nat (q / 16) 3
    refine evE_bin (evE_bin (d := .int ((q / 16 : Nat) : Int)) rfl rfl ?_) rfl ?_
    · rw [← h1]; rfl
    · rw [← h2]; rfl
  have e2 : evE tb (cl (n + 1)) (e15 ws s c Lt rows acc t3 t7 (some (.fz, .int q)) (some (.fz, a)) (some (.fz, b))) (.bin .mod (.bin .fdiv (.var 8) (.con (.int 48))) (.con (.int 2))) = some (.ok (.st, .int ((q / 48 % 2 : Nat) : Int))) := by
    have h1 : ((q : Int)).fdiv 48 = ((q / 48 : Nat) : Int) := fdiv_nat q 48
    have h2 : (((q / 48 : Nat) : Int)).fmod 2 = ((q / 48 % 2 : Nat) : Int) := fmod_nat (q / 48) 2
    refine evE_bin (evE_bin (d := .int ((q / 48 : Nat) : Int)) rfl rfl ?_) rfl ?_
    · rw [← h1]; rfl
    · rw [← h2]; rfl
  generalize q / 16 % 3 = u at e1
  have hv : q / 48 % 2 = 0 ∨ q / 48 % 2 = 1 := by omega
  have k0 : ∀ x : D, evE tb (cl (n + 1)) (e15 ws s c Lt rows acc t3 t7 (some (.fz, .int q)) (some (.fz, a)) (some (.fz, b))) (.cmp .eq (.var 9) (.var 10)) = (match evCmp .eq a b with | some c => okM (.st, .bl c) | none => none) := fun _ => rfl
  have k1 : evE tb (cl (n + 1)) (e15 ws s c Lt rows acc t3 t7 (some (.fz, .int q)) (some (.fz, a)) (some (.fz, b))) (.cmp .eq (.bin .mod (.bin .fdiv (.var 8) (.con (.int 16))) (.con (.int 3))) (.con (.int 0))) = some (.ok (.st, .bl ((u : Int) == 0))) := by
    rw [evE, e1]; rfl
  have k2 : ∃ g ∈ [D.str [47], D.str [92]], evE tb (cl (n + 1)) (e15 ws s c Lt rows acc t3 t7 (some (.fz, .int q)) (some (.fz, a)) (some (.fz, b))) (.idx (.lst (.cons (.call 13 .nil) (.cons (.call 14 .nil) .nil))) (.bin .mod (.bin .fdiv (.var 8) (.con (.int 48))) (.con (.int 2)))) = some (.ok (.st, g)) := by
    have kl : evE tb (cl (n + 1)) (e15 ws s c Lt rows acc t3 t7 (some (.fz, .int q)) (some (.fz, a)) (some (.fz, b))) (.lst (.cons (.call 13 .nil) (.cons (.call 14 .nil) .nil))) = some (.ok (.fr, .lst [.str [47], .str [92]])) := rfl
    rcases hv with hv | hv <;> rw [hv] at e2
    · exact ⟨.str [47], by simp, by rw [evE, kl, M.bind_ok, e2]; rfl⟩
    · exact ⟨.str [92], by simp, by rw [evE, kl, M.bind_ok, e2]; rfl⟩
  obtain ⟨g, hg, k2⟩ := k2
  have k3 : evE tb (cl (n + 1)) (e15 ws s c Lt rows acc t3 t7 (some (.fz, .int q)) (some (.fz, a)) (some (.fz, b))) (.tup (.cons (.idx (.lst (.cons (.call 13 .nil) (.cons (.call 14 .nil) .nil))) (.bin .mod (.bin .fdiv (.var 8) (.con (.int 48))) (.con (.int 2)))) (.cons (.var 9) (.cons (.var 10) .nil)))) = some (.ok (.st, .tup [g, a, b])) := by
    rw [evE, evEs, k2, M.bind_ok, evEs, a9, M.bind_ok, evEs, a10, M.bind_ok]; rfl
  have hin : ∀ a ∈ L4, a ∈ BC := fun a h => List.mem_append_left _ h
  have cond : ∀ r : Bool, evCmp .eq a b = some r → evE tb (cl (n + 1)) (e15 ws s c Lt rows acc t3 t7 (some (.fz, .int q)) (some (.fz, a)) (some (.fz, b))) (.or (.cmp .eq (.var 9) (.var 10)) (.cons (.cmp .eq (.bin .mod (.bin .fdiv (.var 8) (.con (.int 16))) (.con (.int 3))) (.con (.int 0))) .nil)) = some (.ok (.st, .bl (r || ((u : Int) == 0)))) := by
    intro r hr
    rw [evE, k0 a, hr]
    cases r
    · show evOr tb _ _ _ _ = _
      rw [evOr]
      show (evE tb _ _ _).bind _ = _
      rw [k1]
      rfl
    · rfl
  have fin : ∀ r : Bool, evCmp .eq a b = some r → (r = false → D.tup [g, a, b] ∈ BC) → ∃ d ∈ BC, evE tb (cl (n + 1)) (e15 ws s c Lt rows acc t3 t7 (some (.fz, .int q)) (some (.fz, a)) (some (.fz, b))) w15c = some (.ok (.st, d)) := by
    intro r hr hm
    have cd := cond r hr
    rw [w15c, evE, cd, M.bind_ok]
    cases hx : (r || ((u : Int) == 0)) with
    | true => exact ⟨a, hin a ha, a9⟩
    | false =>
      have : r = false := by cases r <;> simp_all
      exact ⟨_, hm this, k3⟩
  simp only [L4, List.mem_cons, List.not_mem_nil, or_false] at ha hb
  simp only [List.mem_cons, List.not_mem_nil, or_false] at hg
  rcases ha with rfl | rfl | rfl | rfl <;> rcases hb with rfl | rfl | rfl | rfl <;> first
    | exact fin true rfl (fun h => by cases h)
    | exact fin false rfl (fun _ => by rcases hg with rfl | rfl <;> simp [exSs, exS, evE, evAnd, evOr, evEs, evTs, evO, getS, okM, M.bind, nxM, stP, varP, isBox, outFl, Fl.still, Fl.isUn, froz, varOf, varsOf, bindP, bindPs, truth, noDct, tyIs, evCmp, Ev.vals, fls, anyUn, ownAt, List.set, seqS_id, M.bind_ok, parS, stills, BC])
end K24

end
section
set_option autoImplicit false
set_option linter.all false
set_option maxRecDepth 100000
set_option maxHeartbeats 4000000
namespace K24
open Ev
theorem evE_idx {T : Tb} {c : Call} {env : Env} {a i : CE} {f : Fl} {x y d : D} (h1 : evE T c env a = some (.ok (f, x))) (hf : f.isUn = false) (h2 : evE T c env i = some (.ok (.st, y))) (h : evIdx x y = some d) : evE T c env (.idx a i) = some (.ok (.st, d)) := by
  rw [evE, h1, M.bind_ok, h2, M.bind_ok]
  simp only [h, hf, Bool.false_or, outFl, okM]
  rfl
theorem evE_blt1 {T : Tb} {c : Call} {env : Env} {k : Nat} {a : CE} {f : Fl} {p : Prim} {x d : D} (h1 : evE T c env a = some (.ok (f, x))) (hf : f.isUn = false) (hp : T.blt[k]? = some p) (h : p [x] = some (false, d)) : evE T c env (.blt k (.cons a .nil)) = some (.ok (.st, d)) := by
  rw [evE, evEs, h1, M.bind_ok, evEs, okM, M.bind_ok, okM, M.bind_ok, hp]
  simp only [Ev.vals, h, fls, anyUn, hf, Bool.false_or, outFl, okM]
  rfl
theorem app1 {T : Tb} {c : Call} {W i : Nat} {env : Env} {e : CE} {xs : List D} {d : D} (ho : ownAt env i = some (.lst xs)) (h : evE T c env e = some (.ok (.st, d))) (hl : xs.length + 1 ≤ 1000) : exS T c W env (.app i e) = some (.nx (env.set i (some (.ow, .lst (xs ++ [d]))))) := by
  have hl' : lenLe (xs ++ [d]) line = true := lenLe_of (by rw [List.length_append, line]; simp; omega)
  rw [exS, ho]
  simp only
  rw [h]
  simp only [xp_ok, Fl.still, hl', Bool.and_self, if_true]
theorem Wd_at (ws : List Nat) (k : Nat) (h : k < ws.length) : evIdx (.lst (Wd ws)) (.int (k : Nat)) = some (.int ((ws.getD k 0 : Nat) : Int)) := by
  show atD (Wd ws) (k : Int) = _
  rw [atD_nat _ k (by rw [Wd, List.length_map]; exact h)]
  rw [List.getD_eq_getElem?_getD, List.getD_eq_getElem?_getD, Wd, List.getElem?_map, List.getElem?_eq_getElem h]
  rfl
theorem mod_nat (a b : Nat) (h : 0 < b) : evBin .mod (.int a) (.int b) = some (false, .int ((a % b : Nat) : Int)) := by
  show (if ((b : Int) != 0) = true then some (false, D.int ((a : Int).fmod (b : Int))) else none) = _
  rw [fmod_nat, if_pos (by simp; omega)]
theorem div_nat (a b : Nat) (h : 0 < b) (h2 : b < 1073741824) : evBin .fdiv (.int a) (.int b) = some (false, .int ((a / b : Nat) : Int)) := by
  show (if (((b : Int) != 0) && decide ((b : Int).natAbs < 1073741824)) = true then some (false, D.int ((a : Int).fdiv (b : Int))) else none) = _
  rw [fdiv_nat, if_pos (by simp; omega)]
theorem mul_nat (a b : Nat) (h : a ≤ 1000) : evBin .mul (.int a) (.int b) = some (false, .int ((a * b : Nat) : Int)) := by
  have hs : small64 (a : Int) = true := by simp [exSs, exS, evE, evAnd, evOr, evEs, evTs, evO, getS, okM, M.bind, nxM, stP, varP, isBox, outFl, Fl.still, Fl.isUn, froz, varOf, varsOf, bindP, bindPs, truth, noDct, tyIs, evCmp, Ev.vals, fls, anyUn, ownAt, List.set, seqS_id, M.bind_ok, parS, stills, small64]; omega
  show (if (small64 a || small64 b) = true then some (false, D.int ((a : Int) * (b : Int))) else none) = _
  rw [hs, Bool.true_or, if_pos rfl, Int.natCast_mul]
theorem add_nat (a b : Nat) : evBin .add (.int a) (.int b) = some (false, .int ((a + b : Nat) : Int)) := by
  show some (false, D.int ((a : Int) + (b : Int))) = _
  rw [Int.natCast_add]
theorem step15 (n : Nat) (ws : List Nat) (hw : 0 < ws.length) (s c : Nat) (hs : s ≤ 6) (hc : 1 ≤ c) (hc4 : c ≤ 4) (rows acc : List D) (i j : Nat) (hi : i ≤ 6) (t8 t9 t10 : Slot) (hl : acc.length + 1 ≤ 1000) : ∃ d ∈ BC, ∃ t8' t9' t10', exSs tb (cl (n + 1)) 100 (e15 ws s c (L4.take c) rows acc (some (.fz, .int i)) (some (.fz, .int j)) t8 t9 t10) b15a = some (.nx (e15 ws s c (L4.take c) rows (acc ++ [d]) (some (.fz, .int i)) (some (.fz, .int j)) t8' t9' t10')) := by
  have hk : (s * i + j) % ws.length < ws.length := Nat.mod_lt _ hw
  generalize hE : e15 ws s c (L4.take c) rows acc (some (.fz, .int i)) (some (.fz, .int j)) t8 t9 t10 = E
  have v0 : evE tb (cl (n + 1)) E (.var 0) = some (.ok (.st, .lst (Wd ws))) := by subst hE; rfl
  have v1 : evE tb (cl (n + 1)) E (.var 1) = some (.ok (.st, .int s)) := by subst hE; rfl
  have v3 : evE tb (cl (n + 1)) E (.var 3) = some (.ok (.st, .int i)) := by subst hE; rfl
  have v7 : evE tb (cl (n + 1)) E (.var 7) = some (.ok (.st, .int j)) := by subst hE; rfl
  have ln : pLen [.lst (Wd ws)] = some (false, .int (ws.length : Nat)) := by
    show some (false, D.int ((Wd ws).length : Nat)) = _
    rw [Wd, List.length_map]
  have m5 := evE_idx v0 rfl (evE_bin (evE_bin (evE_bin v1 v3 (mul_nat s i (by omega))) v7 (add_nat _ _)) (evE_blt1 v0 rfl t_len ln) (mod_nat _ _ hw)) (Wd_at ws _ hk)
  generalize ws.getD ((s * i + j) % ws.length) 0 = w at m5
  have m8 := evE_bin (evE_blt1 m5 rfl t_int (d := .int w) rfl) (evE_bin (a := .con (.int 1)) (d1 := .int ((1 : Nat) : Int)) rfl v3 (add_nat 1 i)) (div_nat w (1 + i) (by omega) (by omega))
  generalize w / (1 + i) = q at m8
  subst hE
  have k1 : exS tb (cl (n + 1)) 100 (e15 ws s c (L4.take c) rows acc (some (.fz, .int i)) (some (.fz, .int j)) t8 t9 t10) (.asg (.var 8) (.bin .fdiv (.blt 10 (.cons (.idx (.var 0) (.bin .mod (.bin .add (.bin .mul (.var 1) (.var 3)) (.var 7)) (.blt 0 (.cons (.var 0) .nil)))) .nil)) (.bin .add (.con (.int 1)) (.var 3)))) = some (.nx (e15 ws s c (L4.take c) rows acc (some (.fz, .int i)) (some (.fz, .int j)) (some (.fz, .int q)) t9 t10)) := by
    rw [exS]
    show xp _ (evE tb (cl (n + 1)) (e15 ws s c (L4.take c) rows acc (some (.fz, .int i)) (some (.fz, .int j)) t8 t9 t10) _) _ = _
    rw [m8]
    rfl
  have hL : (L4.take c).length = c := by rw [List.length_take]; simp [exSs, exS, evE, evAnd, evOr, evEs, evTs, evO, getS, okM, M.bind, nxM, stP, varP, isBox, outFl, Fl.still, Fl.isUn, froz, varOf, varsOf, bindP, bindPs, truth, noDct, tyIs, evCmp, Ev.vals, fls, anyUn, ownAt, List.set, seqS_id, M.bind_ok, parS, stills, L4]; omega
  have get : ∀ x : Nat, ∃ a ∈ L4, evIdx (.lst (L4.take c)) (.int ((x % c : Nat) : Int)) = some a := by
    intro x
    have hx : x % c < (L4.take c).length := by rw [hL]; exact Nat.mod_lt _ hc
    refine ⟨_, ?_, atD_nat _ _ hx⟩
    rw [List.getD_eq_getElem?_getD, List.getElem?_eq_getElem hx]
    exact List.mem_of_mem_take (List.getElem_mem hx)
  obtain ⟨a, ha, ga⟩ := get q
  obtain ⟨b, hb, gb⟩ := get (q / 4)
  have p1 : evE tb (cl (n + 1)) (e15 ws s c (L4.take c) rows acc (some (.fz, .int i)) (some (.fz, .int j)) (some (.fz, .int q)) t9 t10) (.idx (.var 4) (.bin .mod (.var 8) (.var 2))) = some (.ok (.st, a)) :=
    evE_idx (f := .ow) rfl rfl (evE_bin rfl rfl (mod_nat q c hc)) ga
  have p2 : evE tb (cl (n + 1)) (e15 ws s c (L4.take c) rows acc (some (.fz, .int i)) (some (.fz, .int j)) (some (.fz, .int q)) t9 t10) (.idx (.var 4) (.bin .mod (.bin .fdiv (.var 8) (.con (.int 4))) (.var 2))) = some (.ok (.st, b)) :=
    evE_idx (f := .ow) rfl rfl (evE_bin (evE_bin (b := .con (.int 4)) (d2 := .int ((4 : Nat) : Int)) rfl rfl (div_nat q 4 (by omega) (by omega))) rfl (mod_nat (q / 4) c hc)) gb
  have k2 : exS tb (cl (n + 1)) 100 (e15 ws s c (L4.take c) rows acc (some (.fz, .int i)) (some (.fz, .int j)) (some (.fz, .int q)) t9 t10) (.par [9, 10] (.cons (.idx (.var 4) (.bin .mod (.var 8) (.var 2))) (.cons (.idx (.var 4) (.bin .mod (.bin .fdiv (.var 8) (.con (.int 4))) (.var 2))) .nil))) = some (.nx (e15 ws s c (L4.take c) rows acc (some (.fz, .int i)) (some (.fz, .int j)) (some (.fz, .int q)) (some (.fz, a)) (some (.fz, b)))) := by
    rw [exS]
    show xp _ (evEs tb (cl (n + 1)) (e15 ws s c (L4.take c) rows acc (some (.fz, .int i)) (some (.fz, .int j)) (some (.fz, .int q)) t9 t10) _) _ = _
    rw [evEs, p1, M.bind_ok, evEs, p2, M.bind_ok, evEs]
    simp only [L4, List.mem_cons, List.not_mem_nil, or_false] at ha hb
    rcases ha with rfl | rfl | rfl | rfl <;> rcases hb with rfl | rfl | rfl | rfl <;> rfl
  obtain ⟨d, hd, k3⟩ := val15 n q ws s c (L4.take c) rows acc (some (.fz, .int i)) (some (.fz, .int j)) a b ha hb
  refine ⟨d, hd, some (.fz, .int q), some (.fz, a), some (.fz, b), ?_⟩
  rw [b15a, seq1 k1, seq1 k2, seq1 (app1 rfl k3 hl)]
  rfl
end K24

end
section
set_option autoImplicit false
set_option linter.all false
set_option maxRecDepth 100000
set_option maxHeartbeats 4000000
namespace K24
open Ev
theorem l15a (n : Nat) (ws : List Nat) (hw : 0 < ws.length) (s c : Nat) (hs : s ≤ 6) (hc : 1 ≤ c) (hc4 : c ≤ 4) (rows : List D) (i : Nat) (hi : i ≤ 6) : ∀ (ds acc : List D) (t7 t8 t9 t10 : Slot), (∀ d ∈ ds, ∃ j : Nat, d = .int j) → acc.length + ds.length ≤ 1000 → ∃ out t7' t8' t9' t10', out.length = ds.length ∧ (∀ d ∈ out, d ∈ BC) ∧ loop (bodyF tb (cl (n + 1)) 100 (.var 7) b15a) ds (e15 ws s c (L4.take c) rows acc (some (.fz, .int i)) t7 t8 t9 t10) = some (.nx (e15 ws s c (L4.take c) rows (acc ++ out) (some (.fz, .int i)) t7' t8' t9' t10'))
  | [], acc, t7, t8, t9, t10, _, _ => ⟨[], t7, t8, t9, t10, rfl, by simp, by simp [exSs, exS, evE, evAnd, evOr, evEs, evTs, evO, getS, okM, M.bind, nxM, stP, varP, isBox, outFl, Fl.still, Fl.isUn, froz, varOf, varsOf, bindP, bindPs, truth, noDct, tyIs, evCmp, Ev.vals, fls, anyUn, ownAt, List.set, seqS_id, M.bind_ok, parS, stills, loop]⟩
  | d :: ds, acc, t7, t8, t9, t10, hd, h => by
    simp only [List.length_cons] at h
    obtain ⟨j, rfl⟩ := hd d List.mem_cons_self
    obtain ⟨x, hx, a8, a9, a10, st⟩ := step15 n ws hw s c hs hc hc4 rows acc i j hi t8 t9 t10 (by omega)
    obtain ⟨out, b7, b8, b9, b10, ho, hm, e⟩ := l15a n ws hw s c hs hc hc4 rows i hi ds (acc ++ [x]) (some (.fz, .int j)) a8 a9 a10 (fun y hy => hd y (List.mem_cons_of_mem _ hy)) (by simp; omega)
    refine ⟨x :: out, b7, b8, b9, b10, by simp [exSs, exS, evE, evAnd, evOr, evEs, evTs, evO, getS, okM, M.bind, nxM, stP, varP, isBox, outFl, Fl.still, Fl.isUn, froz, varOf, varsOf, bindP, bindPs, truth, noDct, tyIs, evCmp, Ev.vals, fls, anyUn, ownAt, List.set, seqS_id, M.bind_ok, parS, stills, ho], ?_, ?_⟩
    · intro y hy
      rcases List.mem_cons.mp hy with rfl | hy
      · exact hx
      · exact hm y hy
    · have st' : bodyF tb (cl (n + 1)) 100 (.var 7) b15a (e15 ws s c (L4.take c) rows acc (some (.fz, .int i)) t7 t8 t9 t10) (.int j) = some (.nx (e15 ws s c (L4.take c) rows (acc ++ [x]) (some (.fz, .int i)) (some (.fz, .int j)) a8 a9 a10)) := st
      rw [loop, st']
      simp only
      rw [e, List.append_assoc]
      rfl
def e15o (ws : List Nat) (s c : Nat) (Lt rows : List D) (t6 t3 t7 t8 t9 t10 : Slot) : Env := [some (.fz, .lst (Wd ws)), some (.fz, .int s), some (.fz, .int c), t3, some (.ow, .lst Lt), some (.ow, .lst rows), t6, t7, t8, t9, t10]
theorem l15b (n : Nat) (ws : List Nat) (hw : 0 < ws.length) (s c : Nat) (hs : s ≤ 6) (hc : 1 ≤ c) (hc4 : c ≤ 4) : ∀ (ds rows : List D) (t6 t3 t7 t8 t9 t10 : Slot), (∀ d ∈ ds, ∃ j : Nat, j ≤ 6 ∧ d = .int j) → rows.length + ds.length ≤ 1000 → ∃ (out : List (List D)) (t3' t6' t7' t8' t9' t10' : Slot), out.length = ds.length ∧ (∀ r ∈ out, r.length = s ∧ ∀ d ∈ r, d ∈ BC) ∧ loop (bodyF tb (cl (n + 1)) 100 (.var 3) b15b) ds (e15o ws s c (L4.take c) rows t6 t3 t7 t8 t9 t10) = some (.nx (e15o ws s c (L4.take c) (rows ++ out.map D.tup) t6' t3' t7' t8' t9' t10'))
  | [], rows, t6, t3, t7, t8, t9, t10, _, _ => ⟨[], t3, t6, t7, t8, t9, t10, rfl, by simp, by simp [exSs, exS, evE, evAnd, evOr, evEs, evTs, evO, getS, okM, M.bind, nxM, stP, varP, isBox, outFl, Fl.still, Fl.isUn, froz, varOf, varsOf, bindP, bindPs, truth, noDct, tyIs, evCmp, Ev.vals, fls, anyUn, ownAt, List.set, seqS_id, M.bind_ok, parS, stills, loop]⟩
  | d :: ds, rows, t6, t3, t7, t8, t9, t10, hd, h => by
    simp only [List.length_cons] at h
    obtain ⟨i, hi, rfl⟩ := hd d List.mem_cons_self
    obtain ⟨out, b7, b8, b9, b10, ho, hm, lp⟩ := l15a n ws hw s c hs hc hc4 rows i hi (rangeD 0 s) [] t7 t8 t9 t10 (fun d hd => by
      rw [rangeD_map] at hd
      obtain ⟨k, _, rfl⟩ := List.mem_map.mp hd
      exact ⟨k, by rw [Int.zero_add]⟩) (by rw [rangeD_len]; simp; omega)
    rw [rangeD_len] at ho
    rw [List.nil_append] at lp
    have fr := for_rng (T := tb) (cl := cl (n + 1)) (fu := 100) (e := .var 1) (p := .var 7) (b := b15a) (env := e15 ws s c (L4.take c) rows [] (some (.fz, .int i)) t7 t8 t9 t10) (n := s) rfl (by omega)
    obtain ⟨out2, c3, c6, c7, c8, c9, c10, ho2, hm2, e⟩ := l15b n ws hw s c hs hc hc4 ds (rows ++ [.tup out]) (some (.ow, .lst out)) (some (.fz, .int i)) b7 b8 b9 b10 (fun y hy => hd y (List.mem_cons_of_mem _ hy)) (by simp; omega)
    refine ⟨out :: out2, c3, c6, c7, c8, c9, c10, by simp [exSs, exS, evE, evAnd, evOr, evEs, evTs, evO, getS, okM, M.bind, nxM, stP, varP, isBox, outFl, Fl.still, Fl.isUn, froz, varOf, varsOf, bindP, bindPs, truth, noDct, tyIs, evCmp, Ev.vals, fls, anyUn, ownAt, List.set, seqS_id, M.bind_ok, parS, stills, ho2], ?_, ?_⟩
    · intro r hr
      rcases List.mem_cons.mp hr with rfl | hr
      · exact ⟨ho, hm⟩
      · exact hm2 r hr
    · have st : bodyF tb (cl (n + 1)) 100 (.var 3) b15b (e15o ws s c (L4.take c) rows t6 t3 t7 t8 t9 t10) (.int i) = some (.nx (e15o ws s c (L4.take c) (rows ++ [.tup out]) (some (.ow, .lst out)) (some (.fz, .int i)) b7 b8 b9 b10)) := by
        show exSs tb (cl (n + 1)) 100 (e15o ws s c (L4.take c) rows t6 (some (.fz, .int i)) t7 t8 t9 t10) b15b = _
        rw [b15b, seq1 (e := e15 ws s c (L4.take c) rows [] (some (.fz, .int i)) t7 t8 t9 t10) rfl, seq1 (fr.trans lp), seq1 (app1 (xs := rows) rfl (evE_tuple (f := .ow) (X := out) rfl rfl) (by omega))]
        rfl
      rw [loop, st]
      simp only
      rw [e, List.append_assoc]
      rfl
theorem c_lblock (n : Nat) (ws : List Nat) (hw : 0 < ws.length) (s c : Nat) (hs : s ≤ 6) (hc : 1 ≤ c) (hc4 : c ≤ 4) : ∃ rows : List (List D), rows.length = s ∧ (∀ r ∈ rows, r.length = s ∧ ∀ d ∈ r, d ∈ BC) ∧ cl (n + 2) 15 [.lst (Wd ws), .int s, .int c] = some (.ok (.st, blk rows)) := by
  obtain ⟨out, b3, b6, b7, b8, b9, b10, ho, hm, lp⟩ := l15b n ws hw s c hs hc hc4 (rangeD 0 s) [] none none none none none none (fun d hd => by
      rw [rangeD_map] at hd
      obtain ⟨k, hk, rfl⟩ := List.mem_map.mp hd
      have := List.mem_range.mp hk
      exact ⟨k, by omega, by rw [Int.zero_add]⟩) (by rw [rangeD_len]; simp; omega)
  rw [rangeD_len] at ho
  refine ⟨out, ho, hm, ?_⟩
  rw [List.nil_append] at lp
  rw [call_def ⟨3, 11, b15⟩ rfl rfl]
  show retM (exSs tb (cl (n + 1)) 100 [some (.fz, .lst (Wd ws)), some (.fz, .int s), some (.fz, .int c), none, none, none, none, none, none, none, none] b15) = _
  have fr := for_rng (T := tb) (cl := cl (n + 1)) (fu := 100) (e := .var 1) (p := .var 3) (b := b15b) (env := e15o ws s c (L4.take c) [] none none none none none none) (n := s) rfl (by omega)
  have p : exS tb (cl (n + 1)) 100 [some (.fz, .lst (Wd ws)), some (.fz, .int s), some (.fz, .int c), none, none, none, none, none, none, none, none] (.par [4, 5] (.cons (.slc (.lst (.cons (.con (.str [97])) (.cons (.con (.str [98, 98])) (.cons (.con (.str [99])) (.cons (.con (.str [100])) .nil))))) .nil (.cons (.var 2) .nil)) (.cons (.lst .nil) .nil))) = some (.nx (e15o ws s c (L4.take c) [] none none none none none none)) := by
    have : c = 1 ∨ c = 2 ∨ c = 3 ∨ c = 4 := by omega
    rcases this with rfl | rfl | rfl | rfl <;> rfl
  rw [b15_is, seq1 p, seq1 (fr.trans lp), ret1 rfl (evE_tuple (f := .ow) (X := out.map D.tup) rfl rfl)]
  rfl
end K24

end
section
set_option autoImplicit false
set_option linter.all false
set_option maxRecDepth 100000
set_option maxHeartbeats 4000000
namespace K24
open Ev
theorem cmpNs_of {k : Nat} : ∀ {l : List D}, (∀ d ∈ l, cmpN k d = true) → cmpNs k l = true
  | [], _ => rfl
  | d :: l, h => by rw [cmpNs, h d List.mem_cons_self, cmpNs_of (fun x hx => h x (List.mem_cons_of_mem _ hx))]; rfl
theorem dEqs_of : ∀ {l : List D}, (∀ d ∈ l, dEq d d = true) → dEqs l l = true
  | [], _ => rfl
  | d :: l, h => by rw [dEqs, h d List.mem_cons_self, dEqs_of (fun x hx => h x (List.mem_cons_of_mem _ hx))]; rfl
theorem ne_blk {C : List D} (G : Good C) (rows : List (List D)) (h : ∀ r ∈ rows, ∀ d ∈ r, d ∈ C) : evCmp .ne (blk rows) (blk rows) = some false := by
  have h1 : cmpOk (blk rows) = true := by
    show cmpNs 49 (rows.map D.tup) = true
    refine cmpNs_of fun d hd => ?_
    obtain ⟨r, hr, rfl⟩ := List.mem_map.mp hd
    show cmpNs 48 r = true
    exact cmpNs_of fun d hd => (G.cm d (h r hr d hd)).1
  have h2 : dEq (blk rows) (blk rows) = true := by
    show dEqs (rows.map D.tup) (rows.map D.tup) = true
    refine dEqs_of fun d hd => ?_
    obtain ⟨r, hr, rfl⟩ := List.mem_map.mp hd
    show dEqs r r = true
    exact dEqs_of fun d hd => (G.cm d (h r hr d hd)).2.1
  rw [evCmp, h1, h2]
  rfl
theorem rows_mem {C : List D} (G : Good C) (s : Nat) : ∀ k x, ∀ r ∈ lrows C s k x, ∀ d ∈ r, d ∈ C
  | 0, _, r, hr => by simp [exSs, exS, evE, evAnd, evOr, evEs, evTs, evO, getS, okM, M.bind, nxM, stP, varP, isBox, outFl, Fl.still, Fl.isUn, froz, varOf, varsOf, bindP, bindPs, truth, noDct, tyIs, evCmp, Ev.vals, fls, anyUn, ownAt, List.set, seqS_id, M.bind_ok, parS, stills, lrows] at hr
  | k + 1, x, r, hr => by
    rw [lrows] at hr
    rcases List.mem_append.mp hr with hr | hr
    · exact rows_mem G s k _ r hr
    · simp only [List.mem_singleton] at hr
      subst hr
      exact fun d hd => cdg_mem G s x d (List.mem_reverse.mp hd)
theorem sq_rows {C : List D} (G : Good C) (s x : Nat) (h1 : 1 ≤ s) (h2 : s ≤ 6) : Sq C (lrows C s s x) := by
  obtain ⟨a, b⟩ := rows_len C s s x
  exact ⟨by omega, by omega, fun r hr => by rw [a]; exact b r hr, rows_mem G s s x⟩
theorem num_at (n s c x : Nat) (h1 : 1 ≤ s) (h2 : s ≤ 6) (h3 : 1 ≤ c) (h4 : c ≤ 8) (hx : x < (cellsD c).length ^ (s * s)) : cl (n + 5) 11 [blk (lrows (cellsD c) s s x), .int c] = some (.ok (.st, .int x)) := by
  have G := good c h3 h4
  rw [c_num n c h3 h4 _ (sq_rows G s x h1 h2), rows_flat, horner_cdg G _ _ hx]
/-- back from a block to its number and on to the block -/
theorem at_num {C : List D} (G : Good C) (rows : List (List D)) (S : Sq C rows) : horner C 0 rows.flatten < C.length ^ (rows.length * rows.length) ∧ lrows C rows.length rows.length (horner C 0 rows.flatten) = rows := by
  have hm : ∀ d ∈ rows.flatten.reverse, d ∈ C := by
    intro d hd
    obtain ⟨r, hr, h⟩ := List.mem_flatten.mp (List.mem_reverse.mp hd)
    exact S.mem r hr d h
  obtain ⟨a, b⟩ := cdg_horner G rows.flatten.reverse hm
  rw [List.reverse_reverse, List.length_reverse, flat_len rows.length rows S.len] at a b
  refine ⟨b, ?_⟩
  rw [← chunks_rows, a, List.reverse_reverse, chunks_flat _ _ S.len]
end K24

end
section
set_option autoImplicit false
set_option linter.all false
set_option maxRecDepth 100000
set_option maxHeartbeats 4000000
namespace K24
open Ev
def eT (sc : D) (ws : List Nat) (t : Nat) (h4 h5 h6 h7 h8 : Slot) (s c m x : Nat) (h13 h14 h15 : Slot) : Env := [some (.fz, sc), some (.ow, .lst (Wd ws)), some (.fz, .int t), none, h4, h5, h6, h7, h8, some (.fz, .int s), some (.fz, .int c), some (.fz, .int m), some (.fz, .int x), h13, h14, h15]
def t3 : CSs := (.cons (.asg (.var 12) (.bin .add (.bin .mul (.var 12) (.con (.int 65521))) (.blt 10 (.cons (.idx (.var 1) (.bin .mod (.bin .add (.bin .add (.con (.int 10)) (.bin .mul (.con (.int 3)) (.var 2))) (.var 4)) (.con (.int 60)))) .nil)))) .nil)
theorem s65521 : small64 65521 = true := by decide
theorem lT3 (n : Nat) (sc : D) (ws : List Nat) (hw : ws.length = 60) (t : Nat) (h5 h6 h7 h8 : Slot) (s c m : Nat) (h13 h14 h15 : Slot) : ∀ (ds : List D) (h4 : Slot) (x : Nat), (∀ d ∈ ds, ∃ j : Nat, d = .int j) → ∃ h4' x', loop (bodyF tb (cl n) 100 (.var 4) t3) ds (eT sc ws t h4 h5 h6 h7 h8 s c m x h13 h14 h15) = some (.nx (eT sc ws t h4' h5 h6 h7 h8 s c m x' h13 h14 h15))
  | [], h4, x, _ => ⟨h4, x, rfl⟩
  | d :: ds, h4, x, hd => by
    obtain ⟨j, rfl⟩ := hd d List.mem_cons_self
    have hk : (10 + 3 * t + j) % 60 < ws.length := by omega
    generalize hE : eT sc ws t (some (.fz, .int j)) h5 h6 h7 h8 s c m x h13 h14 h15 = E
    have v1 : evE tb (cl n) E (.var 1) = some (.ok (.ow, .lst (Wd ws))) := by subst hE; rfl
    have v2 : evE tb (cl n) E (.var 2) = some (.ok (.st, .int t)) := by subst hE; rfl
    have v4 : evE tb (cl n) E (.var 4) = some (.ok (.st, .int j)) := by subst hE; rfl
    have v12 : evE tb (cl n) E (.var 12) = some (.ok (.st, .int x)) := by subst hE; rfl
    have m1 := evE_idx v1 rfl (evE_bin (evE_bin (evE_bin (a := .con (.int 10)) (d1 := .int ((10 : Nat) : Int)) rfl (evE_bin (a := .con (.int 3)) (d1 := .int ((3 : Nat) : Int)) rfl v2 (mul_nat 3 t (by omega))) (add_nat _ _)) v4 (add_nat _ _)) (b := .con (.int 60)) (d2 := .int ((60 : Nat) : Int)) rfl (mod_nat _ 60 (by omega))) (Wd_at ws _ hk)
    generalize ws.getD ((10 + 3 * t + j) % 60) 0 = w at m1
    have m2 := evE_bin (o := .add) (evE_bin (b := .con (.int 65521)) v12 rfl (mul_small x s65521)) (evE_blt1 m1 rfl t_int (d := .int w) rfl) (d := .int ((x * 65521 + w : Nat) : Int)) (by
      show some (false, D.int ((x : Int) * 65521 + (w : Int))) = _
      rw [Int.natCast_add, Int.natCast_mul]; rfl)
    generalize x * 65521 + w = y at m2
    obtain ⟨h4', x', e⟩ := lT3 n sc ws hw t h5 h6 h7 h8 s c m h13 h14 h15 ds (some (.fz, .int j)) y (fun z hz => hd z (List.mem_cons_of_mem _ hz))
    refine ⟨h4', x', ?_⟩
    have st : bodyF tb (cl n) 100 (.var 4) t3 (eT sc ws t h4 h5 h6 h7 h8 s c m x h13 h14 h15) (.int j) = some (.nx (eT sc ws t (some (.fz, .int j)) h5 h6 h7 h8 s c m y h13 h14 h15)) := by
      show exSs tb (cl n) 100 (eT sc ws t (some (.fz, .int j)) h5 h6 h7 h8 s c m x h13 h14 h15) t3 = _
      rw [t3, seq1 (e := eT sc ws t (some (.fz, .int j)) h5 h6 h7 h8 s c m y h13 h14 h15)]
      · rfl
      · rw [exS]
        show xp _ (evE tb (cl n) (eT sc ws t (some (.fz, .int j)) h5 h6 h7 h8 s c m x h13 h14 h15) _) _ = _
        rw [hE, m2, ← hE]
        rfl
    rw [loop, st]
    exact e
def t4 : CSs := (.cons (.asg (.var 13) (.call 17 (.cons (.var 9) (.cons (.var 10) (.cons (.var 5) .nil))))) (.cons (.ifS (.or (.cmp .ne (.call 10 (.cons (.var 9) (.cons (.var 10) (.cons (.var 5) .nil)))) (.var 13)) (.cons (.cmp .ne (.call 11 (.cons (.var 13) (.cons (.var 10) .nil))) (.var 5)) .nil)) (.cons (.ret (.con (.bl false))) .nil) .nil) .nil))
theorem or2 {T : Tb} {c : Call} {env : Env} {a b : CE} (h1 : evE T c env a = some (.ok (.st, .bl false))) (h2 : evE T c env b = some (.ok (.st, .bl false))) : evE T c env (.or a (.cons b .nil)) = some (.ok (.st, .bl false)) := by
  rw [evE, h1]
  show evOr T c env (.st, .bl false) _ = _
  rw [evOr]
  show (evE T c env b).bind _ = _
  rw [h2]
  rfl
theorem evE_ne {T : Tb} {c : Call} {env : Env} {a b : CE} {f g : Fl} {x y : D} (h1 : evE T c env a = some (.ok (f, x))) (h2 : evE T c env b = some (.ok (g, y))) (h : evCmp .ne x y = some false) : evE T c env (.cmp .ne a b) = some (.ok (.st, .bl false)) := by
  rw [evE, h1, M.bind_ok, h2, M.bind_ok, h]
  rfl
theorem ne_int (i : Int) : evCmp .ne (.int i) (.int i) = some false := by
  have h : dEq (.int i) (.int i) = true := by show (i == i) = true; simp
  rw [evCmp, h]
  rfl
theorem lT4 (n : Nat) (sc : D) (ws : List Nat) (t : Nat) (h4 h6 h7 h8 : Slot) (s c x : Nat) (h1 : 1 ≤ s) (h2 : s ≤ 6) (h3 : 1 ≤ c) (h4' : c ≤ 8) (h14 h15 : Slot) : ∀ (ds : List D) (h5 h13 : Slot), (∀ d ∈ ds, ∃ j : Nat, j < (cellsD c).length ^ (s * s) ∧ d = .int j) → ∃ h5' h13', loop (bodyF tb (cl (n + 5)) 100 (.var 5) t4) ds (eT sc ws t h4 h5 h6 h7 h8 s c ((cellsD c).length ^ (s * s)) x h13 h14 h15) = some (.nx (eT sc ws t h4 h5' h6 h7 h8 s c ((cellsD c).length ^ (s * s)) x h13' h14 h15))
  | [], h5, h13, _ => ⟨h5, h13, rfl⟩
  | d :: ds, h5, h13, hd => by
    have G := good c h3 h4'
    obtain ⟨j, hj, rfl⟩ := hd d List.mem_cons_self
    have a1 := c_lat (n + 2) s c j h2 h3 h4'
    have a2 := c_at (n + 2) s c j h1 h2 h3 h4' hj
    have a3 := num_at n s c j h1 h2 h3 h4' hj
    have a4 := ne_blk G (lrows (cellsD c) s s j) (rows_mem G s s j)
    obtain ⟨b5, b13, e⟩ := lT4 n sc ws t h4 h6 h7 h8 s c x h1 h2 h3 h4' h14 h15 ds (some (.fz, .int j)) (some (.fz, blk (lrows (cellsD c) s s j))) (fun z hz => hd z (List.mem_cons_of_mem _ hz))
    refine ⟨b5, b13, ?_⟩
    generalize (cellsD c).length ^ (s * s) = m at e ⊢
    generalize lrows (cellsD c) s s j = R at a1 a2 a3 a4 e
    have st : bodyF tb (cl (n + 5)) 100 (.var 5) t4 (eT sc ws t h4 h5 h6 h7 h8 s c m x h13 h14 h15) (.int j) = some (.nx (eT sc ws t h4 (some (.fz, .int j)) h6 h7 h8 s c m x (some (.fz, blk R)) h14 h15)) := by
      show exSs tb (cl (n + 5)) 100 (eT sc ws t h4 (some (.fz, .int j)) h6 h7 h8 s c m x h13 h14 h15) t4 = _
      have k1 : evE tb (cl (n + 5)) (eT sc ws t h4 (some (.fz, .int j)) h6 h7 h8 s c m x h13 h14 h15) (.call 17 (.cons (.var 9) (.cons (.var 10) (.cons (.var 5) .nil)))) = some (.ok (.st, blk R)) := evE_call3 rfl rfl rfl a1
      rw [t4, seq1 (e := eT sc ws t h4 (some (.fz, .int j)) h6 h7 h8 s c m x (some (.fz, blk R)) h14 h15)]
      · rw [seq1 (ifS_skip (or2 (evE_ne (evE_call3 rfl rfl rfl a2) (y := blk R) rfl a4) (evE_ne (evE_call2 (d1 := blk R) rfl rfl a3) (y := .int j) rfl (ne_int _))))]
        rfl
      · rw [exS]
        show xp _ (evE tb (cl (n + 5)) (eT sc ws t h4 (some (.fz, .int j)) h6 h7 h8 s c m x h13 h14 h15) _) _ = _
        rw [k1]
        rfl
    rw [loop, st]
    exact e
end K24

end
section
set_option autoImplicit false
set_option linter.all false
set_option maxRecDepth 100000
set_option maxHeartbeats 4000000
namespace K24
open Ev
theorem for_lst {T : Tb} {c : Call} {fu : Nat} {e : CE} {p : Pat} {b : CSs} {env : Env} {ds : List D} (hv : ciVars (.seq e) = []) (h : evE T c env e = some (.ok (.fr, .lst ds))) : exS T c fu env (.forS p (.seq e) b) = loop (bodyF T c fu p b) ds env := by
  rw [exS_for]
  simp only [hv, froz]
  rw [evI, h, M.bind_ok]
  have : solid e .fr (.lst ds) = true := by simp [exSs, exS, evE, evAnd, evOr, evEs, evTs, evO, getS, okM, M.bind, nxM, stP, varP, isBox, outFl, Fl.still, Fl.isUn, froz, varOf, varsOf, bindP, bindPs, truth, noDct, tyIs, evCmp, Ev.vals, fls, anyUn, ownAt, List.set, seqS_id, M.bind_ok, parS, stills, solid]
  simp only [itemsOf, Option.bind, walkable, Fl.isUn, Bool.false_and, Bool.false_eq_true, if_false, Option.map, this, Ev.liftM]
  rfl
theorem loop8 (k : Nat) (b : CSs) (sc : D) (ws : List Nat) (t : Nat) (h4 h5 h6 h7 : Slot) (s c m x : Nat) (h13 h14 h15 : Slot) : ∀ (ds : List D) (h8 : Slot), (∀ d ∈ ds, exSs tb (cl k) 100 (eT sc ws t h4 h5 h6 h7 (some (.fz, d)) s c m x h13 h14 h15) b = some (.nx (eT sc ws t h4 h5 h6 h7 (some (.fz, d)) s c m x h13 h14 h15))) → ∃ h8', loop (bodyF tb (cl k) 100 (.var 8) b) ds (eT sc ws t h4 h5 h6 h7 h8 s c m x h13 h14 h15) = some (.nx (eT sc ws t h4 h5 h6 h7 h8' s c m x h13 h14 h15))
  | [], h8, _ => ⟨h8, rfl⟩
  | d :: ds, h8, h => by
    obtain ⟨h8', e⟩ := loop8 k b sc ws t h4 h5 h6 h7 s c m x h13 h14 h15 ds (some (.fz, d)) (fun y hy => h y (List.mem_cons_of_mem _ hy))
    refine ⟨h8', ?_⟩
    have st : bodyF tb (cl k) 100 (.var 8) b (eT sc ws t h4 h5 h6 h7 h8 s c m x h13 h14 h15) d = some (.nx (eT sc ws t h4 h5 h6 h7 (some (.fz, d)) s c m x h13 h14 h15)) := h d List.mem_cons_self
    rw [loop, st]
    exact e
theorem evE_call4 {T : Tb} {c : Call} {env : Env} {f : Nat} {a b e g : CE} {d1 d2 d3 d4 d : D} (h1 : evE T c env a = some (.ok (.st, d1))) (h2 : evE T c env b = some (.ok (.st, d2))) (h3 : evE T c env e = some (.ok (.st, d3))) (h4 : evE T c env g = some (.ok (.st, d4))) (h : c f [d1, d2, d3, d4] = some (.ok (.st, d))) : evE T c env (.call f (.cons a (.cons b (.cons e (.cons g .nil))))) = some (.ok (.st, d)) := by
  rw [evE, evEs, h1, M.bind_ok, evEs, h2, M.bind_ok, evEs, h3, M.bind_ok, evEs, h4, M.bind_ok, evEs]
  show (c f [d1, d2, d3, d4]).bind _ = _
  rw [h]
  rfl
theorem ne_nm (k : Nat) (hk : k = 1 ∨ k = 2 ∨ k = 3 ∨ k = 4 ∨ k = 5) : evCmp .ne (nm k) (nm k) = some false := by
  rcases hk with rfl | rfl | rfl | rfl | rfl <;> rfl
def t8 : CSs := (.cons (.ifS (.cmp .ne (.call 18 (.cons (.con (.int 0)) (.cons (.var 9) (.cons (.var 10) (.cons (.var 8) .nil))))) (.con (.str [112, 108, 97, 99, 101]))) (.cons (.ret (.con (.bl false))) .nil) .nil) .nil)
def t9 : CSs := (.cons (.ifS (.or (.cmp .ne (.call 18 (.cons (.con (.int 0)) (.cons (.var 9) (.cons (.var 8) (.cons (.con .non) .nil))))) (.con (.str [110, 117, 109, 98, 101, 114]))) (.cons (.cmp .ne (.call 18 (.cons (.con (.int 1)) (.cons (.var 7) (.cons (.var 8) (.cons (.con .non) .nil))))) (.con (.str [110, 117, 109, 98, 101, 114]))) .nil)) (.cons (.ret (.con (.bl false))) .nil) .nil) .nil)
def t10 : CSs := (.cons (.ifS (.cmp .ne (.call 18 (.cons (.con (.int 0)) (.cons (.var 8) (.cons (.con .non) (.cons (.con .non) .nil))))) (.con (.str [115, 105, 122, 101]))) (.cons (.ret (.con (.bl false))) .nil) .nil) .nil)
def t11 : CSs := (.cons (.ifS (.cmp .ne (.call 18 (.cons (.con (.int 1)) (.cons (.var 8) (.cons (.con .non) (.cons (.con .non) .nil))))) (.con (.str [98, 108, 111, 99, 107]))) (.cons (.ret (.con (.bl false))) .nil) .nil) .nil)
theorem lW8 (sc : D) (ws : List Nat) (t : Nat) (h4 h5 h6 h7 : Slot) (s c x : Nat) (h1 : 1 ≤ s) (h2 : s ≤ 6) (h3 : 1 ≤ c) (h4' : c ≤ 8) (h13 h14 h15 : Slot) (h8 : Slot) : ∃ h8', loop (bodyF tb (cl 11) 100 (.var 8) t8) [.int (((cellsD c).length ^ (s * s) : Nat) : Int), .int (-1), .bl true, .non, .str [48]] (eT sc ws t h4 h5 h6 h7 h8 s c ((cellsD c).length ^ (s * s)) x h13 h14 h15) = some (.nx (eT sc ws t h4 h5 h6 h7 h8' s c ((cellsD c).length ^ (s * s)) x h13 h14 h15)) := by
  refine loop8 11 t8 sc ws t h4 h5 h6 h7 s c _ x h13 h14 h15 _ h8 (fun d hd => ?_)
  have hw : cl 9 0 [d, .int 0, .int (((cellsD c).length : Int) ^ (s * s) - 1)] = some (.ok (.st, .bl false)) := by
    simp only [List.mem_cons, List.not_mem_nil, or_false] at hd
    rcases hd with rfl | rfl | rfl | rfl | rfl
    · refine w_out 8 _ 0 _ (Or.inr ?_)
      rw [Int.natCast_pow]; omega
    · exact w_out 8 _ 0 _ (Or.inl (by omega))
    · exact w_bad 8 _ _ _ (by simp)
    · exact w_bad 8 _ _ _ (by simp)
    · exact w_bad 8 _ _ _ (by simp)
  obtain ⟨p, hp⟩ := at_place 7 s c h1 h2 h3 h4' d hw
  have f := first0 10 1 (by simp) _ _ _ p hp
  generalize (cellsD c).length ^ (s * s) = m
  rw [t8, seq1 (ifS_skip (evE_ne (evE_call4 rfl rfl rfl rfl f) rfl (ne_nm 1 (by simp))))]
  rfl
theorem lW9 (sc : D) (ws : List Nat) (t : Nat) (h4 h5 h6 : Slot) (rows : List (List D)) (S : Sq (cellsD 4) rows) (s c m x : Nat) (h1 : 1 ≤ s) (h2 : s ≤ 6) (h13 h14 h15 : Slot) (h8 : Slot) : ∃ h8', loop (bodyF tb (cl 11) 100 (.var 8) t9) [.int 0, .int 9, .bl true, .non, .str [50]] (eT sc ws t h4 h5 h6 (some (.fz, blk rows)) h8 s c m x h13 h14 h15) = some (.nx (eT sc ws t h4 h5 h6 (some (.fz, blk rows)) h8' s c m x h13 h14 h15)) := by
  refine loop8 11 t9 sc ws t h4 h5 h6 _ s c _ x h13 h14 h15 _ h8 (fun d hd => ?_)
  have hw : cl 8 0 [d, .int 1, .int 8] = some (.ok (.st, .bl false)) := by
    simp only [List.mem_cons, List.not_mem_nil, or_false] at hd
    rcases hd with rfl | rfl | rfl | rfl | rfl
    · exact w_out 7 _ 1 _ (Or.inl (by omega))
    · exact w_out 7 _ 1 _ (Or.inr (by omega))
    · exact w_bad 7 _ _ _ (by simp)
    · exact w_bad 7 _ _ _ (by simp)
    · exact w_bad 7 _ _ _ (by simp)
  have n1 := S.n1
  have n6 := S.n6
  obtain ⟨p, hp⟩ := check_num 7 s d (by omega) (by omega) hw
  obtain ⟨p', hp'⟩ := check_num 7 rows.length d (by omega) (by omega) hw
  have f := first0 10 5 (by simp) (.int s) d .non p (at_ex 9 5 _ _ _ p hp)
  have g := first1 10 5 (by simp) (blk rows) d .non p' (num_ex6 9 5 rows d p' (c_checkb 5 4 (by omega) (by omega) rows S) hp')
  rw [t9, seq1 (ifS_skip (or2 (evE_ne (evE_call4 rfl rfl rfl rfl f) rfl (ne_nm 5 (by simp))) (evE_ne (evE_call4 (d2 := blk rows) rfl rfl rfl rfl g) rfl (ne_nm 5 (by simp)))))]
  rfl
theorem lW10 (sc : D) (ws : List Nat) (t : Nat) (h4 h5 h6 h7 : Slot) (s c m x : Nat) (h13 h14 h15 : Slot) (h8 : Slot) : ∃ h8', loop (bodyF tb (cl 11) 100 (.var 8) t10) [.int 0, .int 7, .bl true, .non, .str [50]] (eT sc ws t h4 h5 h6 h7 h8 s c m x h13 h14 h15) = some (.nx (eT sc ws t h4 h5 h6 h7 h8' s c m x h13 h14 h15)) := by
  refine loop8 11 t10 sc ws t h4 h5 h6 _ s c _ x h13 h14 h15 _ h8 (fun d hd => ?_)
  have hw : cl 8 0 [d, .int 1, .int 6] = some (.ok (.st, .bl false)) := by
    simp only [List.mem_cons, List.not_mem_nil, or_false] at hd
    rcases hd with rfl | rfl | rfl | rfl | rfl
    · exact w_out 7 _ 1 _ (Or.inl (by omega))
    · exact w_out 7 _ 1 _ (Or.inr (by omega))
    · exact w_bad 7 _ _ _ (by simp)
    · exact w_bad 7 _ _ _ (by simp)
    · exact w_bad 7 _ _ _ (by simp)
  obtain ⟨p, hp⟩ := check_size 7 d .non hw
  have f := first0 10 4 (by simp) d .non .non p (at_ex 9 4 _ _ _ p hp)
  rw [t10, seq1 (ifS_skip (evE_ne (evE_call4 rfl rfl rfl rfl f) rfl (ne_nm 4 (by simp))))]
  rfl
theorem lW11 (sc : D) (ws : List Nat) (t : Nat) (h4 h5 h6 h7 : Slot) (l : List D) (s c m x : Nat) (h13 h14 h15 : Slot) (h8 : Slot) : ∃ h8', loop (bodyF tb (cl 11) 100 (.var 8) t11) [.non, .tup [], .lst l, .tup [.tup [.non]], .int 7] (eT sc ws t h4 h5 h6 h7 h8 s c m x h13 h14 h15) = some (.nx (eT sc ws t h4 h5 h6 h7 h8' s c m x h13 h14 h15)) := by
  refine loop8 11 t11 sc ws t h4 h5 h6 _ s c _ x h13 h14 h15 _ h8 (fun d hd => ?_)
  have hw : ∃ p, cl 9 4 [d] = some (.ex 3 p) := by
    simp only [List.mem_cons, List.not_mem_nil, or_false] at hd
    rcases hd with rfl | rfl | rfl | rfl | rfl
    · exact bad_non 5
    · exact bad_nil 5
    · exact bad_lst 5 l
    · exact bad_tup 5
    · exact bad_int 5
  obtain ⟨p, hp⟩ := hw
  have f := first1 10 3 (by simp) d .non .non p (num_ex 9 3 _ _ p hp)
  rw [t11, seq1 (ifS_skip (evE_ne (evE_call4 rfl rfl rfl rfl f) rfl (ne_nm 3 (by simp))))]
  rfl
end K24

end
section
set_option autoImplicit false
set_option linter.all false
set_option maxRecDepth 100000
set_option maxHeartbeats 4000000
namespace K24
open Ev
def x5 : CE := (.call 15 (.cons (.bin .add (.slc (.var 1) (.cons (.bin .mul (.con (.int 9)) (.var 2)) .nil) .nil) (.var 1)) (.cons (.var 9) (.cons (.blt 5 (.cons (.con (.int 4)) (.cons (.bin .add (.con (.int 1)) (.bin .mod (.blt 10 (.cons (.idx (.var 1) (.bin .add (.con (.int 30)) (.var 2))) .nil)) (.con (.int 4)))) .nil))) .nil))))
def x6 : CE := (.blt 1 (.cons (.comp [14] (.var 14) (.seq (.var 6)) .nil (.blt 1 (.cons (.comp [15] (.var 15) (.seq (.var 14)) .nil (.call 19 (.cons (.var 15) .nil))) .nil))) .nil))
def x7 : CE := (.or (.cmp .ne (.call 10 (.cons (.var 9) (.cons (.con (.int 4)) (.cons (.call 11 (.cons (.var 7) (.cons (.con (.int 4)) .nil))) .nil)))) (.var 7)) (.cons (.cmp .ne (.call 18 (.cons (.con (.int 1)) (.cons (.slc (.bin .add (.tup (.cons (.tup (.cons (.con (.str [122, 122])) .nil)) .nil)) (.tup (.cons (.tup (.cons (.con (.str [122, 122])) .nil)) .nil))) .nil (.cons (.con (.int 1)) .nil)) (.cons (.con (.int 4)) (.cons (.con .non) .nil))))) (.con (.str [99, 111, 108, 111, 117, 114]))) .nil))
theorem evE_call3f {T : Tb} {c : Call} {env : Env} {f : Nat} {a b e : CE} {d1 d2 d3 d : D} (h1 : evE T c env a = some (.ok (.fr, d1))) (h2 : evE T c env b = some (.ok (.st, d2))) (h3 : evE T c env e = some (.ok (.st, d3))) (h : c f [d1, d2, d3] = some (.ok (.st, d))) : evE T c env (.call f (.cons a (.cons b (.cons e .nil)))) = some (.ok (.st, d)) := by
  rw [evE, evEs, h1, M.bind_ok, evEs, h2, M.bind_ok, evEs, h3, M.bind_ok, evEs]
  show (c f [d1, d2, d3]).bind _ = _
  rw [h]
  rfl
theorem evE_call1 {T : Tb} {c : Call} {env : Env} {f : Nat} {a : CE} {d1 d : D} (h1 : evE T c env a = some (.ok (.st, d1))) (h : c f [d1] = some (.ok (.st, d))) : evE T c env (.call f (.cons a .nil)) = some (.ok (.st, d)) := by
  rw [evE, evEs, h1, M.bind_ok, evEs]
  show (c f [d1]).bind _ = _
  rw [h]
  rfl
theorem cut_drop (R : List D) (a : Nat) (h : a ≤ R.length) : cutL R (some (a : Int)) none = R.drop a := by
  unfold cutL
  have e1 : clip R.length 0 (some (a : Int)) = a := by
    simp only [clip]; rw [if_neg (by omega)]; simp; omega
  rw [e1]
  simp only [clip]
  rw [← List.length_drop, List.take_length]
theorem k5 (sc : D) (ws : List Nat) (hw : ws.length = 60) (t : Nat) (ht : t < 5) (h4 h5 h6 h7 h8 : Slot) (s c m x : Nat) (h2 : s ≤ 6) (h13 h14 h15 : Slot) : ∃ rows : List (List D), rows.length = s ∧ (∀ r ∈ rows, r.length = s ∧ ∀ d ∈ r, d ∈ BC) ∧ evE tb (cl 11) (eT sc ws t h4 h5 h6 h7 h8 s c m x h13 h14 h15) x5 = some (.ok (.st, blk rows)) := by
  generalize hE : eT sc ws t h4 h5 h6 h7 h8 s c m x h13 h14 h15 = E
  have v1 : evE tb (cl 11) E (.var 1) = some (.ok (.ow, .lst (Wd ws))) := by subst hE; rfl
  have v2 : evE tb (cl 11) E (.var 2) = some (.ok (.st, .int t)) := by subst hE; rfl
  have v9 : evE tb (cl 11) E (.var 9) = some (.ok (.st, .int s)) := by subst hE; rfl
  have q9 : evE tb (cl 11) E (.bin .mul (.con (.int 9)) (.var 2)) = some (.ok (.st, .int ((9 * t : Nat) : Int))) := evE_bin (d1 := .int ((9 : Nat) : Int)) rfl v2 (mul_nat 9 t (by omega))
  have hd : (Wd ws).drop (9 * t) = Wd (ws.drop (9 * t)) := by simp [exSs, exS, evE, evAnd, evOr, evEs, evTs, evO, getS, okM, M.bind, nxM, stP, varP, isBox, outFl, Fl.still, Fl.isUn, froz, varOf, varsOf, bindP, bindPs, truth, noDct, tyIs, evCmp, Ev.vals, fls, anyUn, ownAt, List.set, seqS_id, M.bind_ok, parS, stills, Wd, List.map_drop]
  have e1 : evE tb (cl 11) E (.slc (.var 1) (.cons (.bin .mul (.con (.int 9)) (.var 2)) .nil) .nil) = some (.ok (.fr, .lst (Wd (ws.drop (9 * t))))) := by
    rw [evE, v1, M.bind_ok, evO, evO, q9, M.bind_ok]
    have hc := cut_drop (Wd ws) (9 * t) (by rw [Wd, List.length_map]; omega)
    rw [hd] at hc
    simp only [okM, M.bind_ok, evSlc, hc]
    rfl
  have e2 : evE tb (cl 11) E (.bin .add (.slc (.var 1) (.cons (.bin .mul (.con (.int 9)) (.var 2)) .nil) .nil) (.var 1)) = some (.ok (.fr, .lst (Wd (ws.drop (9 * t) ++ ws)))) := by
    rw [evE, e1, M.bind_ok, v1, M.bind_ok]
    have hl : lenLe (Wd (ws.drop (9 * t)) ++ Wd ws) line = true := lenLe_of (by rw [List.length_append, Wd, Wd, List.length_map, List.length_map, List.length_drop, line]; omega)
    have hb : evBin .add (.lst (Wd (ws.drop (9 * t)))) (.lst (Wd ws)) = some (true, .lst (Wd (ws.drop (9 * t) ++ ws))) := by
      rw [evBin, hl, if_pos rfl, Wd, Wd, Wd, List.map_append]
    simp only [hb]
    rfl
  have m1 := evE_idx v1 rfl (evE_bin (o := .add) (a := .con (.int 30)) (d1 := .int ((30 : Nat) : Int)) rfl v2 (add_nat 30 t)) (Wd_at ws _ (by omega))
  generalize ws.getD (30 + t) 0 = w at m1
  have m2 := evE_bin (o := .add) (a := .con (.int 1)) (d1 := .int ((1 : Nat) : Int)) rfl (evE_bin (o := .mod) (evE_blt1 m1 rfl t_int (d := .int w) rfl) (b := .con (.int 4)) (d2 := .int ((4 : Nat) : Int)) rfl (mod_nat w 4 (by omega))) (add_nat 1 _)
  have m3 : evE tb (cl 11) E (.blt 5 (.cons (.con (.int 4)) (.cons (.bin .add (.con (.int 1)) (.bin .mod (.blt 10 (.cons (.idx (.var 1) (.bin .add (.con (.int 30)) (.var 2))) .nil)) (.con (.int 4)))) .nil))) = some (.ok (.st, .int ((1 + w % 4 : Nat) : Int))) := by
    have c4 : evE tb (cl 11) E (.con (.int 4)) = some (.ok (.st, .int 4)) := by rw [evE]; rfl
    rw [evE, evEs, c4, M.bind_ok, evEs, m2, M.bind_ok, evEs, okM, M.bind_ok, okM, M.bind_ok, okM, M.bind_ok, t_min]
    have : pMin [.int 4, .int ((1 + w % 4 : Nat) : Int)] = some (false, .int ((1 + w % 4 : Nat) : Int)) := by
      rw [pMin]
      have : (if ((1 + w % 4 : Nat) : Int) < 4 then ((1 + w % 4 : Nat) : Int) else 4) = ((1 + w % 4 : Nat) : Int) := by
        split <;> omega
      rw [this]
    show (match pMin [.int 4, .int ((1 + w % 4 : Nat) : Int)] with | some (f, d) => okM (outFl (anyUn [.st, .st]) f d, d) | none => none) = _
    rw [this]
    rfl
  obtain ⟨rows, a, b, cb⟩ := c_lblock 9 (ws.drop (9 * t) ++ ws) (by rw [List.length_append]; omega) s (1 + w % 4) h2 (by omega) (by omega)
  refine ⟨rows, a, b, ?_⟩
  exact evE_call3f e2 v9 m3 cb
theorem k6 (sc : D) (ws : List Nat) (t : Nat) (h4 h5 h7 h8 : Slot) (s c m x : Nat) (rows : List (List D)) (hn : rows.length ≤ 6) (hr : ∀ r ∈ rows, r.length ≤ 6 ∧ ∀ d ∈ r, d ∈ BC) (h13 h14 h15 : Slot) : evE tb (cl 11) (eT sc ws t h4 h5 (some (.fz, blk rows)) h7 h8 s c m x h13 h14 h15) x6 = some (.ok (.st, blk (rows.map fun r => r.map plD))) := by
  have k : evE tb (cl 11) (eT sc ws t h4 h5 (some (.fz, blk rows)) h7 h8 s c m x h13 h14 h15) (.comp [14] (.var 14) (.seq (.var 6)) .nil (.blt 1 (.cons (.comp [15] (.var 15) (.seq (.var 14)) .nil (.call 19 (.cons (.var 15) .nil))) .nil))) = some (.ok (.fr, .lst ((rows.map D.tup).map fun d => match d with | .tup r => .tup (r.map plD) | _ => .non))) := by
    refine comp_eq (evI_var (ds := rows.map D.tup) rfl) (fun d hd => ?_) (by simp; omega)
    obtain ⟨r, h, rfl⟩ := List.mem_map.mp hd
    obtain ⟨hl, hm⟩ := hr r h
    refine ⟨eT sc ws t h4 h5 (some (.fz, blk rows)) h7 h8 s c m x h13 (some (.fz, .tup r)) h15, rfl, ?_⟩
    refine evE_tuple (f := .fr) (comp_eq (g := plD) (evI_var (ds := r) rfl) (fun d hd => ?_) (by omega)) rfl
    refine ⟨eT sc ws t h4 h5 (some (.fz, blk rows)) h7 h8 s c m x h13 (some (.fz, .tup r)) (some (.fz, d)), rfl, ?_⟩
    have := c_letter 10 d (hm d hd)
    have v : evE tb (cl 11) (eT sc ws t h4 h5 (some (.fz, blk rows)) h7 h8 s c m x h13 (some (.fz, .tup r)) (some (.fz, d))) (.var 15) = some (.ok (.st, d)) := rfl
    exact evE_call1 v this
  rw [x6, evE_tuple k rfl, blk, List.map_map, List.map_map]
  rfl
theorem k7 (sc : D) (ws : List Nat) (t : Nat) (h4 h5 h6 h8 : Slot) (c m x : Nat) (rows : List (List D)) (S : Sq (cellsD 4) rows) (h13 h14 h15 : Slot) : evE tb (cl 11) (eT sc ws t h4 h5 h6 (some (.fz, blk rows)) h8 rows.length c m x h13 h14 h15) x7 = some (.ok (.st, .bl false)) := by
  have G := good 4 (by omega) (by omega)
  obtain ⟨a, b⟩ := at_num G rows S
  have e1 := c_num 6 4 (by omega) (by omega) rows S
  have e2 := c_at 8 rows.length 4 (horner (cellsD 4) 0 rows.flatten) S.n1 S.n6 (by omega) (by omega) a
  rw [b] at e2
  generalize horner (cellsD 4) 0 rows.flatten = z at e1 e2
  exact or2 (evE_ne (evE_call3 rfl rfl (evE_call2 (d1 := blk rows) rfl rfl e1) e2) (y := blk rows) rfl (ne_blk G rows S.mem)) (evE_ne (evE_call4 (d2 := .tup [.tup [.str [122, 122]]]) rfl rfl rfl rfl (zz_colour 3)) rfl (ne_nm 2 (by simp)))
end K24

end
section
set_option autoImplicit false
set_option linter.all false
set_option maxRecDepth 100000
set_option maxHeartbeats 4000000
namespace K24
open Ev
def eG (sc : D) (ws : List Nat) (h2 h4 h5 h6 h7 h8 h9 h10 h11 h12 h13 h14 h15 : Slot) : Env := [some (.fz, sc), some (.ow, .lst (Wd ws)), h2, none, h4, h5, h6, h7, h8, h9, h10, h11, h12, h13, h14, h15]
def y1 : CS := (.par [9, 10] (.cons (.bin .add (.con (.int 1)) (.bin .mod (.blt 10 (.cons (.idx (.var 1) (.var 2)) .nil)) (.con (.int 5)))) (.cons (.bin .add (.con (.int 1)) (.bin .mod (.blt 10 (.cons (.idx (.var 1) (.bin .add (.con (.int 5)) (.var 2))) .nil)) (.con (.int 8)))) .nil)))
def y2 : CS := (.par [11, 12] (.cons (.call 9 (.cons (.var 9) (.cons (.var 10) .nil))) (.cons (.con (.int 0)) .nil)))
def y4 : CE := (.lst (.cons (.bin .mod (.var 12) (.var 11)) (.cons (.con (.int 0)) (.cons (.bin .sub (.var 11) (.con (.int 1))) (.cons (.bin .mod (.bin .fdiv (.var 12) (.con (.int 7))) (.var 11)) (.cons (.bin .mod (.bin .add (.var 12) (.con (.int 1))) (.var 11)) .nil))))))
def y8 : CE := (.lst (.cons (.var 11) (.cons (.neg (.con (.int 1))) (.cons (.con (.bl true)) (.cons (.con .non) (.cons (.con (.str [48])) .nil))))))
def y9 : CE := (.lst (.cons (.con (.int 0)) (.cons (.con (.int 9)) (.cons (.con (.bl true)) (.cons (.con .non) (.cons (.con (.str [50])) .nil))))))
def y10 : CE := (.lst (.cons (.con (.int 0)) (.cons (.con (.int 7)) (.cons (.con (.bl true)) (.cons (.con .non) (.cons (.con (.str [50])) .nil))))))
def y11 : CE := (.lst (.cons (.con .non) (.cons (.tup .nil) (.cons (.blt 2 (.cons (.var 7) .nil)) (.cons (.tup (.cons (.tup (.cons (.con .non) .nil)) .nil)) (.cons (.con (.int 7)) .nil))))))
def turnB : CSs := (.cons y1 (.cons y2 (.cons (.forS (.var 4) (.rng (.cons (.con (.int 12)) .nil)) t3) (.cons (.forS (.var 5) (.seq y4) t4) (.cons (.asg (.var 6) x5) (.cons (.asg (.var 7) x6) (.cons (.ifS x7 (.cons (.ret (.con (.bl false))) .nil) .nil) (.cons (.forS (.var 8) (.seq y8) t8) (.cons (.forS (.var 8) (.seq y9) t9) (.cons (.forS (.var 8) (.seq y10) t10) (.cons (.forS (.var 8) (.seq y11) t11) .nil)))))))))))
theorem asg6 {c : Call} {sc : D} {ws : List Nat} {t : Nat} {h4 h5 h6 h7 h8 : Slot} {s k m x : Nat} {h13 h14 h15 : Slot} {e : CE} {rows : List (List D)} (hv : varOf e = []) (h : evE tb c (eT sc ws t h4 h5 h6 h7 h8 s k m x h13 h14 h15) e = some (.ok (.st, blk rows))) : exS tb c 100 (eT sc ws t h4 h5 h6 h7 h8 s k m x h13 h14 h15) (.asg (.var 6) e) = some (.nx (eT sc ws t h4 h5 (some (.fz, blk rows)) h7 h8 s k m x h13 h14 h15)) := by
  rw [exS, hv]
  simp only [froz]
  rw [h]
  rfl
theorem asg7 {c : Call} {sc : D} {ws : List Nat} {t : Nat} {h4 h5 h6 h7 h8 : Slot} {s k m x : Nat} {h13 h14 h15 : Slot} {e : CE} {rows : List (List D)} (hv : varOf e = []) (h : evE tb c (eT sc ws t h4 h5 h6 h7 h8 s k m x h13 h14 h15) e = some (.ok (.st, blk rows))) : exS tb c 100 (eT sc ws t h4 h5 h6 h7 h8 s k m x h13 h14 h15) (.asg (.var 7) e) = some (.nx (eT sc ws t h4 h5 h6 (some (.fz, blk rows)) h8 s k m x h13 h14 h15)) := by
  rw [exS, hv]
  simp only [froz]
  rw [h]
  rfl
theorem turn_ok (sc : D) (ws : List Nat) (hw : ws.length = 60) (t : Nat) (ht : t < 5) (h4 h5 h6 h7 h8 h9 h10 h11 h12 h13 h14 h15 : Slot) : ∃ h4' h5' h6' h7' h8' h9' h10' h11' h12' h13', exSs tb (cl 11) 100 (eG sc ws (some (.fz, .int t)) h4 h5 h6 h7 h8 h9 h10 h11 h12 h13 h14 h15) turnB = some (.nx (eG sc ws (some (.fz, .int t)) h4' h5' h6' h7' h8' h9' h10' h11' h12' h13' h14 h15)) := by
  have hd1 : t < ws.length := by omega
  have hd2 : 5 + t < ws.length := by omega
  generalize hE : eG sc ws (some (.fz, .int t)) h4 h5 h6 h7 h8 h9 h10 h11 h12 h13 h14 h15 = E
  have v1 : evE tb (cl 11) E (.var 1) = some (.ok (.ow, .lst (Wd ws))) := by subst hE; rfl
  have v2 : evE tb (cl 11) E (.var 2) = some (.ok (.st, .int t)) := by subst hE; rfl
  have m1 := evE_idx v1 rfl v2 (Wd_at ws t hd1)
  have m2 := evE_idx v1 rfl (evE_bin (o := .add) (a := .con (.int 5)) (d1 := .int ((5 : Nat) : Int)) rfl v2 (add_nat 5 t)) (Wd_at ws _ hd2)
  generalize ws.getD t 0 = w1 at m1
  generalize ws.getD (5 + t) 0 = w2 at m2
  have a1 := evE_bin (o := .add) (a := .con (.int 1)) (d1 := .int ((1 : Nat) : Int)) rfl (evE_bin (o := .mod) (evE_blt1 m1 rfl t_int (d := .int w1) rfl) (b := .con (.int 5)) (d2 := .int ((5 : Nat) : Int)) rfl (mod_nat w1 5 (by omega))) (add_nat 1 _)
  have a2 := evE_bin (o := .add) (a := .con (.int 1)) (d1 := .int ((1 : Nat) : Int)) rfl (evE_bin (o := .mod) (evE_blt1 m2 rfl t_int (d := .int w2) rfl) (b := .con (.int 8)) (d2 := .int ((8 : Nat) : Int)) rfl (mod_nat w2 8 (by omega))) (add_nat 1 _)
  have s1 : 1 ≤ 1 + w1 % 5 := by omega
  have s2 : 1 + w1 % 5 ≤ 6 := by omega
  have c1 : 1 ≤ 1 + w2 % 8 := by omega
  have c2 : 1 + w2 % 8 ≤ 8 := by omega
  generalize 1 + w1 % 5 = s at a1 s1 s2
  generalize 1 + w2 % 8 = c at a2 c1 c2
  have k1 : exS tb (cl 11) 100 E y1 = some (.nx (eG sc ws (some (.fz, .int t)) h4 h5 h6 h7 h8 (some (.fz, .int s)) (some (.fz, .int c)) h11 h12 h13 h14 h15)) := by
    rw [y1, exS]
    show xp _ (evEs tb (cl 11) E _) _ = _
    rw [evEs, a1, M.bind_ok, evEs, a2, M.bind_ok, evEs]
    subst hE
    rfl
  have ct := c_count 8 s c s1 s2 c1 c2
  have hm : 0 < (cellsD c).length ^ (s * s) := Nat.pow_pos (good c c1 c2).pos
  have L4 := fun (x : Nat) (h4 h6 h7 h8 : Slot) => lT4 6 sc ws t h4 h6 h7 h8 s c x s1 s2 c1 c2 h14 h15
  have W8 := fun (x : Nat) (h4 h5 h6 h7 h8 h13 : Slot) => lW8 sc ws t h4 h5 h6 h7 s c x s1 s2 c1 c2 h13 h14 h15 h8
  generalize (cellsD c).length ^ (s * s) = m at ct hm L4 W8
  have k2 : exS tb (cl 11) 100 (eG sc ws (some (.fz, .int t)) h4 h5 h6 h7 h8 (some (.fz, .int s)) (some (.fz, .int c)) h11 h12 h13 h14 h15) y2 = some (.nx (eT sc ws t h4 h5 h6 h7 h8 s c m 0 h13 h14 h15)) := by
    have e : evE tb (cl 11) (eG sc ws (some (.fz, .int t)) h4 h5 h6 h7 h8 (some (.fz, .int s)) (some (.fz, .int c)) h11 h12 h13 h14 h15) (.call 9 (.cons (.var 9) (.cons (.var 10) .nil))) = some (.ok (.st, .int m)) := evE_call2 rfl rfl ct
    rw [y2, exS]
    show xp _ (evEs tb (cl 11) (eG sc ws (some (.fz, .int t)) h4 h5 h6 h7 h8 (some (.fz, .int s)) (some (.fz, .int c)) h11 h12 h13 h14 h15) _) _ = _
    rw [evEs, e, M.bind_ok]
    rfl
  obtain ⟨g4, x, lp3⟩ := lT3 11 sc ws hw t h5 h6 h7 h8 s c m h13 h14 h15 (rangeD 0 12) h4 0 (fun d hd => by
      rw [rangeD_map] at hd
      obtain ⟨k, _, rfl⟩ := List.mem_map.mp hd
      exact ⟨k, by rw [Int.zero_add]⟩)
  have fr3 := for_rng (T := tb) (cl := cl 11) (fu := 100) (e := .con (.int 12)) (p := .var 4) (b := t3) (env := eT sc ws t h4 h5 h6 h7 h8 s c m 0 h13 h14 h15) (n := 12) rfl (by omega)
  have ev4 : evE tb (cl 11) (eT sc ws t g4 h5 h6 h7 h8 s c m x h13 h14 h15) y4 = some (.ok (.fr, .lst [.int ((x % m : Nat) : Int), .int ((0 : Nat) : Int), .int ((m - 1 : Nat) : Int), .int ((x / 7 % m : Nat) : Int), .int (((x + 1) % m : Nat) : Int)])) := by
    generalize hE2 : eT sc ws t g4 h5 h6 h7 h8 s c m x h13 h14 h15 = E2
    have v11 : evE tb (cl 11) E2 (.var 11) = some (.ok (.st, .int m)) := by subst hE2; rfl
    have v12 : evE tb (cl 11) E2 (.var 12) = some (.ok (.st, .int x)) := by subst hE2; rfl
    have b1 := evE_bin v12 v11 (mod_nat x m hm)
    have b2 : evE tb (cl 11) E2 (.con (.int 0)) = some (.ok (.st, .int ((0 : Nat) : Int))) := by rw [evE]; rfl
    have b3 := evE_bin (o := .sub) (b := .con (.int 1)) (d2 := .int 1) v11 rfl (d := .int ((m - 1 : Nat) : Int)) (by
      show some (false, D.int ((m : Int) - 1)) = _
      rw [Int.natCast_sub hm]; rfl)
    have b4 := evE_bin (o := .mod) (evE_bin (o := .fdiv) (b := .con (.int 7)) (d2 := .int ((7 : Nat) : Int)) v12 rfl (div_nat x 7 (by omega) (by omega))) v11 (mod_nat _ m hm)
    have b5 := evE_bin (o := .mod) (evE_bin (o := .add) (b := .con (.int 1)) (d2 := .int ((1 : Nat) : Int)) v12 rfl (add_nat x 1)) v11 (mod_nat _ m hm)
    rw [y4, evE, evEs, b1, M.bind_ok, evEs, b2, M.bind_ok, evEs, b3, M.bind_ok, evEs, b4, M.bind_ok, evEs, b5, M.bind_ok, evEs]
    rfl
  obtain ⟨g5, g13, lp4⟩ := L4 x g4 h6 h7 h8 [.int ((x % m : Nat) : Int), .int ((0 : Nat) : Int), .int ((m - 1 : Nat) : Int), .int ((x / 7 % m : Nat) : Int), .int (((x + 1) % m : Nat) : Int)] h5 h13 (fun d hd => by
    simp only [List.mem_cons, List.not_mem_nil, or_false] at hd
    rcases hd with rfl | rfl | rfl | rfl | rfl
    · exact ⟨_, Nat.mod_lt _ hm, rfl⟩
    · exact ⟨_, hm, rfl⟩
    · exact ⟨_, Nat.sub_lt hm (by omega), rfl⟩
    · exact ⟨_, Nat.mod_lt _ hm, rfl⟩
    · exact ⟨_, Nat.mod_lt _ hm, rfl⟩)
  obtain ⟨rows, ra, rb, e5⟩ := k5 sc ws hw t ht g4 g5 h6 h7 h8 s c m x s2 g13 h14 h15
  have e6 := k6 sc ws t g4 g5 h7 h8 s c m x rows (by omega) (fun r hr => ⟨by have := (rb r hr).1; omega, (rb r hr).2⟩) g13 h14 h15
  have S : Sq (cellsD 4) (rows.map fun r => r.map plD) := by
    refine ⟨by rw [List.length_map]; omega, by rw [List.length_map]; omega, fun r hr => ?_, fun r hr d hd => ?_⟩
    · obtain ⟨q, hq, rfl⟩ := List.mem_map.mp hr
      rw [List.length_map, List.length_map, (rb q hq).1, ra]
    · obtain ⟨q, hq, rfl⟩ := List.mem_map.mp hr
      obtain ⟨z, hz, rfl⟩ := List.mem_map.mp hd
      exact pl_mem z ((rb q hq).2 z hz)
  have hs : s = (rows.map fun r => r.map plD).length := by rw [List.length_map, ra]
  have e7 := k7 sc ws t g4 g5 (some (.fz, blk rows)) h8 c m x (rows.map fun r => r.map plD) S g13 h14 h15
  rw [← hs] at e7
  generalize (rows.map fun r => r.map plD) = R at e6 e7 S
  obtain ⟨g8, lp8⟩ := W8 x g4 g5 (some (.fz, blk rows)) (some (.fz, blk R)) h8 g13
  obtain ⟨g9, lp9⟩ := lW9 sc ws t g4 g5 (some (.fz, blk rows)) R S s c m x s1 s2 g13 h14 h15 g8
  obtain ⟨g10, lp10⟩ := lW10 sc ws t g4 g5 (some (.fz, blk rows)) (some (.fz, blk R)) s c m x g13 h14 h15 g9
  obtain ⟨g11, lp11⟩ := lW11 sc ws t g4 g5 (some (.fz, blk rows)) (some (.fz, blk R)) (R.map D.tup) s c m x g13 h14 h15 g10
  refine ⟨g4, g5, some (.fz, blk rows), some (.fz, blk R), g11, some (.fz, .int s), some (.fz, .int c), some (.fz, .int m), some (.fz, .int x), g13, ?_⟩
  rw [turnB, seq1 k1, seq1 k2, seq1 (fr3.trans lp3), seq1 ((for_lst rfl ev4).trans lp4), seq1 (asg6 rfl e5), seq1 (asg7 rfl e6), seq1 (ifS_skip e7)]
  rw [seq1 ((for_lst rfl (by rfl)).trans lp8), seq1 ((for_lst rfl (by rfl)).trans lp9), seq1 ((for_lst rfl (by rfl)).trans lp10), seq1 ((for_lst rfl (by rfl)).trans lp11)]
  rfl
end K24

end
section
set_option autoImplicit false
set_option linter.all false
set_option maxRecDepth 100000
set_option maxHeartbeats 4000000
namespace K24
open Ev
theorem turns_ok (sc : D) (ws : List Nat) (hw : ws.length = 60) (h14 h15 : Slot) : ∀ (ds : List D) (h2 h4 h5 h6 h7 h8 h9 h10 h11 h12 h13 : Slot), (∀ d ∈ ds, ∃ t : Nat, t < 5 ∧ d = .int t) → ∃ h2' h4' h5' h6' h7' h8' h9' h10' h11' h12' h13', loop (bodyF tb (cl 11) 100 (.var 2) turnB) ds (eG sc ws h2 h4 h5 h6 h7 h8 h9 h10 h11 h12 h13 h14 h15) = some (.nx (eG sc ws h2' h4' h5' h6' h7' h8' h9' h10' h11' h12' h13' h14 h15))
  | [], h2, h4, h5, h6, h7, h8, h9, h10, h11, h12, h13, _ => ⟨h2, h4, h5, h6, h7, h8, h9, h10, h11, h12, h13, rfl⟩
  | d :: ds, h2, h4, h5, h6, h7, h8, h9, h10, h11, h12, h13, hd => by
    obtain ⟨t, ht, rfl⟩ := hd d List.mem_cons_self
    obtain ⟨g4, g5, g6, g7, g8, g9, g10, g11, g12, g13, st⟩ := turn_ok sc ws hw t ht h4 h5 h6 h7 h8 h9 h10 h11 h12 h13 h14 h15
    obtain ⟨k2, k4, k5, k6, k7, k8, k9, k10, k11, k12, k13, e⟩ := turns_ok sc ws hw h14 h15 ds (some (.fz, .int t)) g4 g5 g6 g7 g8 g9 g10 g11 g12 g13 (fun z hz => hd z (List.mem_cons_of_mem _ hz))
    refine ⟨k2, k4, k5, k6, k7, k8, k9, k10, k11, k12, k13, ?_⟩
    have st' : bodyF tb (cl 11) 100 (.var 2) turnB (eG sc ws h2 h4 h5 h6 h7 h8 h9 h10 h11 h12 h13 h14 h15) (.int t) = some (.nx (eG sc ws (some (.fz, .int t)) g4 g5 g6 g7 g8 g9 g10 g11 g12 g13 h14 h15)) := st
    rw [loop, st']
    exact e
def half3 : CS := (.asg (.var 3) (.tup (.cons (.tup (.cons (.tup (.cons (.call 14 .nil) (.cons (.con (.str [98])) (.cons (.con (.str [97])) .nil)))) .nil)) .nil)))
def lastE : CE := (.and (.cmp .eq (.call 11 (.cons (.var 3) (.cons (.con (.int 2)) .nil))) (.con (.int 5))) (.cons (.cmp .eq (.call 10 (.cons (.con (.int 1)) (.cons (.con (.int 2)) (.cons (.con (.int 2)) .nil)))) (.tup (.cons (.tup (.cons (.tup (.cons (.call 13 .nil) (.cons (.con (.str [97])) (.cons (.con (.str [98])) .nil)))) .nil)) .nil))) (.cons (.cmp .eq (.call 18 (.cons (.con (.int 1)) (.cons (.var 3) (.cons (.con (.int 1)) (.cons (.con .non) .nil))))) (.con (.str [99, 111, 108, 111, 117, 114]))) (.cons (.cmp .eq (.call 11 (.cons (.tup (.cons (.tup (.cons (.con (.str [97])) (.cons (.con (.str [98])) .nil))) (.cons (.tup (.cons (.con (.str [98])) (.cons (.con (.str [97])) .nil))) .nil))) (.cons (.con (.int 2)) .nil))) (.con (.int 42))) .nil))))
theorem b20_is : b20 = (.cons (.asg (.var 1) (.call 12 (.cons (.var 0) (.cons (.con (.int 60)) .nil)))) (.cons (.forS (.var 2) (.rng (.cons (.con (.int 5)) .nil)) turnB) (.cons half3 (.cons (.ret lastE) .nil)))) := rfl
def isI (k : Int) : M (Fl × D) → Bool
  | some (.ok (.st, .int i)) => i == k
  | _ => false
theorem of_isI {k : Int} {m : M (Fl × D)} (h : isI k m = true) : m = some (.ok (.st, .int k)) := by
  unfold isI at h
  split at h
  · rw [eq_of_beq h]
  · cases h
def isS (x : List Nat) : M (Fl × D) → Bool
  | some (.ok (.st, .str y)) => y == x
  | _ => false
theorem of_isS {x : List Nat} {m : M (Fl × D)} (h : isS x m = true) : m = some (.ok (.st, .str x)) := by
  unfold isS at h
  split at h
  · rw [eq_of_beq h]
  · cases h
def isB (x y z : List Nat) : M (Fl × D) → Bool
  | some (.ok (.st, .tup [.tup [.tup [.str a, .str b, .str c]]])) => a == x && (b == y && c == z)
  | _ => false
theorem of_isB {x y z : List Nat} {m : M (Fl × D)} (h : isB x y z m = true) : m = some (.ok (.st, .tup [.tup [.tup [.str x, .str y, .str z]]])) := by
  unfold isB at h
  split at h
  · rw [Bool.and_eq_true, Bool.and_eq_true] at h
    rw [eq_of_beq h.1, eq_of_beq h.2.1, eq_of_beq h.2.2]
  · cases h
def halfD : D := .tup [.tup [.tup [.str [92], .str [98], .str [97]]]]
theorem z1 : cl 11 11 [halfD, .int 2] = some (.ok (.st, .int 5)) := of_isI (by decide +kernel)
theorem z2 : cl 11 10 [.int 1, .int 2, .int 2] = some (.ok (.st, .tup [.tup [.tup [.str [47], .str [97], .str [98]]]])) := of_isB (by decide +kernel)
theorem z3 : cl 11 18 [.int 1, halfD, .int 1, .non] = some (.ok (.st, .str [99, 111, 108, 111, 117, 114])) := of_isS (by decide +kernel)
theorem z4 : cl 11 11 [.tup [.tup [.str [97], .str [98]], .tup [.str [98], .str [97]]], .int 2] = some (.ok (.st, .int 42)) := of_isI (by decide +kernel)
theorem evE_eq {T : Tb} {c : Call} {env : Env} {a b : CE} {f g : Fl} {x y : D} (h1 : evE T c env a = some (.ok (f, x))) (h2 : evE T c env b = some (.ok (g, y))) (h : evCmp .eq x y = some true) : evE T c env (.cmp .eq a b) = some (.ok (.st, .bl true)) := by
  rw [evE, h1, M.bind_ok, h2, M.bind_ok, h]
  rfl
theorem and4 {T : Tb} {c : Call} {env : Env} {a b d e : CE} (h1 : evE T c env a = some (.ok (.st, .bl true))) (h2 : evE T c env b = some (.ok (.st, .bl true))) (h3 : evE T c env d = some (.ok (.st, .bl true))) (h4 : evE T c env e = some (.ok (.st, .bl true))) : evE T c env (.and a (.cons b (.cons d (.cons e .nil)))) = some (.ok (.st, .bl true)) := by
  rw [evE, h1, M.bind_ok, evAnd]
  simp only [truth]
  rw [h2, M.bind_ok, evAnd]
  simp only [truth]
  rw [h3, M.bind_ok, evAnd]
  simp only [truth]
  rw [h4, M.bind_ok, evAnd]
  rfl
theorem last_ok (sc : D) (ws : List Nat) (h2 h4 h5 h6 h7 h8 h9 h10 h11 h12 h13 h14 h15 : Slot) : exSs tb (cl 11) 100 (eG sc ws h2 h4 h5 h6 h7 h8 h9 h10 h11 h12 h13 h14 h15) (.cons half3 (.cons (.ret lastE) .nil)) = some (.rt .st (.bl true)) := by
  rw [seq1 (e := [some (.fz, sc), some (.ow, .lst (Wd ws)), h2, some (.fz, halfD), h4, h5, h6, h7, h8, h9, h10, h11, h12, h13, h14, h15]) rfl]
  have L : evE tb (cl 11) [some (.fz, sc), some (.ow, .lst (Wd ws)), h2, some (.fz, halfD), h4, h5, h6, h7, h8, h9, h10, h11, h12, h13, h14, h15] lastE = some (.ok (.st, .bl true)) := and4 (evE_eq (evE_call2 (d1 := halfD) (d2 := .int 2) rfl rfl z1) (y := .int 5) rfl rfl) (evE_eq (evE_call3 (d1 := .int 1) (d2 := .int 2) (d3 := .int 2) rfl rfl rfl z2) (y := .tup [.tup [.tup [.str [47], .str [97], .str [98]]]]) rfl rfl) (evE_eq (evE_call4 (d1 := .int 1) (d2 := halfD) (d3 := .int 1) (d4 := .non) rfl rfl rfl rfl z3) (y := .str [99, 111, 108, 111, 117, 114]) rfl rfl) (evE_eq (evE_call2 (d1 := .tup [.tup [.str [97], .str [98]], .tup [.str [98], .str [97]]]) (d2 := .int 2) rfl rfl z4) (y := .int 42) rfl rfl)
  rw [ret1 rfl L]
  rfl
theorem law_ev (ns : List Int) (hn : ns.length ≤ 63) : ∃ fl, (fl == Fl.fr) = false ∧ callN tb Pg 100 12 20 [.set (ns.map D.int)] = some (.ok (fl, .bl true)) := by
  refine ⟨.st, rfl, ?_⟩
  obtain ⟨ds, e, hl, hp⟩ := draws_ok (T := tb) (cl := cl 10) (fu := 100) rfl ns hn 60 (by omega)
  have hds : ds.map D.int = Wd (ds.map Int.toNat) := by
    rw [Wd, List.map_map]
    apply List.map_congr_left
    intro d hd
    have := hp d hd
    simp only [Function.comp]
    rw [Int.toNat_of_nonneg this]
  rw [hds] at e
  have hw : (ds.map Int.toNat).length = 60 := by rw [List.length_map, hl]
  generalize ds.map Int.toNat = ws at e hw
  generalize D.set (ns.map D.int) = sc at e
  have c12 : cl 11 12 [sc, .int 60] = some (.ok (.fr, .lst (Wd ws))) := by
    rw [call_def (n := 10) ⟨2, 7, b12⟩ rfl rfl]
    show retM (exSs tb (cl 10) 100 [some (.fz, sc), some (.fz, .int 60), none, none, none, none, none] b12) = _
    rw [draws_is, show exSs tb (cl 10) 100 [some (.fz, sc), some (.fz, .int 60), none, none, none, none, none] bDraws = _ from e]
    rfl
  show cl 12 20 [sc] = _
  rw [call_def (n := 11) ⟨1, 16, b20⟩ rfl rfl]
  show retM (exSs tb (cl 11) 100 [some (.fz, sc), none, none, none, none, none, none, none, none, none, none, none, none, none, none, none] b20) = _
  have s1 : exS tb (cl 11) 100 [some (.fz, sc), none, none, none, none, none, none, none, none, none, none, none, none, none, none, none] (.asg (.var 1) (.call 12 (.cons (.var 0) (.cons (.con (.int 60)) .nil)))) = some (.nx (eG sc ws none none none none none none none none none none none none none)) := by
    have v0 : evE tb (cl 11) [some (.fz, sc), none, none, none, none, none, none, none, none, none, none, none, none, none, none, none] (.var 0) = some (.ok (.st, sc)) := rfl
    have c60 : evE tb (cl 11) [some (.fz, sc), none, none, none, none, none, none, none, none, none, none, none, none, none, none, none] (.con (.int 60)) = some (.ok (.st, .int 60)) := by rw [evE]; rfl
    have k : evE tb (cl 11) [some (.fz, sc), none, none, none, none, none, none, none, none, none, none, none, none, none, none, none] (.call 12 (.cons (.var 0) (.cons (.con (.int 60)) .nil))) = some (.ok (.fr, .lst (Wd ws))) := by
      rw [evE, evEs, v0, M.bind_ok, evEs, c60, M.bind_ok, evEs, okM, M.bind_ok, okM, M.bind_ok, okM, M.bind_ok]
      simp only [Ev.vals]
      rw [c12]
      rfl
    rw [exS]
    simp only [varOf, froz]
    rw [k]
    rfl
  obtain ⟨g2, g4, g5, g6, g7, g8, g9, g10, g11, g12, g13, lp⟩ := turns_ok sc ws hw none none (rangeD 0 5) none none none none none none none none none none none (fun d hd => by
      rw [rangeD_map] at hd
      obtain ⟨k, hk, rfl⟩ := List.mem_map.mp hd
      exact ⟨k, List.mem_range.mp hk, by rw [Int.zero_add]⟩)
  have fr := for_rng (T := tb) (cl := cl 11) (fu := 100) (e := .con (.int 5)) (p := .var 2) (b := turnB) (env := eG sc ws none none none none none none none none none none none none none) (n := 5) rfl (by omega)
  rw [b20_is, seq1 s1, seq1 (fr.trans lp), last_ok]
  rfl
end K24

end
set_option autoImplicit false
set_option maxRecDepth 100000
set_option maxHeartbeats 4000000
namespace K24F
open PySem Ev L2
def top (i : Nat) : Stmt := PySem.Challenge.pw_seamwright_k24_whole_numbers_of_blocks.main.body.getD i (.Pass ⟨0, 0, 0, 0⟩)
def b0 : CSs := (.cons (.ret (.and (.isi (.var 0) .int) (.cons (.not (.isi (.var 0) .bool)) (.cons (.chain .le .le (.var 1) (.var 0) (.var 2)) .nil))))
 .nil)
def f0 : PF := ⟨"is_whole", top 10, ["value", "least", "most"], ["value", "least", "most"], ⟨3, 3, b0⟩⟩
def b1 : CSs := (.cons (.ret (.and (.isi (.var 0) .str) (.cons (.chain .le .le (.con (.int 1)) (.blt 0 (.cons (.var 0) .nil)) (.glob 1)) (.cons (.blt 7 (.cons (.comp [1] (.var 1) (.seq (.var 0)) .nil (.cmp .isin (.var 1) (.glob 0))) .nil)) .nil))))
 .nil)
def f1 : PF := ⟨"is_colour", top 11, ["value", "sign"], ["value"], ⟨1, 2, b1⟩⟩
def b2 : CSs := (.cons (.ifS (.call 1 (.cons (.var 0) .nil)) (.cons (.ret (.con (.bl true)))
 .nil) .nil)
 (.cons (.ifS (.or (.not (.isi (.var 0) .tuple)) (.cons (.cmp .ne (.blt 0 (.cons (.var 0) .nil)) (.con (.int 3))) (.cons (.not (.call 1 (.cons (.idx (.var 0) (.con (.int 1))) .nil))) (.cons (.not (.call 1 (.cons (.idx (.var 0) (.con (.int 2))) .nil))) .nil)))) (.cons (.ret (.con (.bl false)))
 .nil) .nil)
 (.cons (.ret (.and (.isi (.idx (.var 0) (.con (.int 0))) .str) (.cons (.cmp .isin (.idx (.var 0) (.con (.int 0))) (.tup (.cons (.glob 3) (.cons (.glob 4) .nil)))) (.cons (.cmp .ne (.idx (.var 0) (.con (.int 1))) (.idx (.var 0) (.con (.int 2)))) .nil))))
 .nil)))
def f2 : PF := ⟨"_is_cell", top 16, ["value"], ["value"], ⟨1, 1, b2⟩⟩
def b3 : CSs := (.cons (.ifS (.or (.not (.isi (.var 0) .tuple)) (.cons (.not (.chain .le .le (.con (.int 1)) (.blt 0 (.cons (.var 0) .nil)) (.glob 2))) .nil)) (.cons (.ret (.con (.bl false)))
 .nil) .nil)
 (.cons (.ifS (.not (.blt 7 (.cons (.comp [1] (.var 1) (.seq (.var 0)) .nil (.and (.isi (.var 1) .tuple) (.cons (.cmp .eq (.blt 0 (.cons (.var 1) .nil)) (.blt 0 (.cons (.var 0) .nil))) .nil))) .nil))) (.cons (.ret (.con (.bl false)))
 .nil) .nil)
 (.cons (.ret (.blt 7 (.cons (.comp [1] (.var 1) (.seq (.var 0)) .nil (.blt 7 (.cons (.comp [2] (.var 2) (.seq (.var 1)) .nil (.call 2 (.cons (.var 2) .nil))) .nil))) .nil)))
 .nil)))
def f3 : PF := ⟨"is_block", top 17, ["value", "row", "cell"], ["value"], ⟨1, 3, b3⟩⟩
def b4 : CSs := (.cons (.ifS (.not (.call 3 (.cons (.var 0) .nil))) (.cons (.raise 3 (.cons (.con (.str [110, 111, 116, 32, 97, 32, 98, 108, 111, 99, 107])) .nil))
 .nil) .nil)
 .nil)
def f4 : PF := ⟨"check_block", top 18, ["block"], ["block"], ⟨1, 1, b4⟩⟩
def b5 : CSs := (.cons (.ret (.comp2 [1, 2] (.var 1) (.seq (.var 0)) .nil [2] (.var 2) (.seq (.var 1)) .nil (.var 2)))
 .nil)
def f5 : PF := ⟨"cells_in", top 19, ["block", "row", "cell"], ["block"], ⟨1, 3, b5⟩⟩
def b6 : CSs := (.cons (.ifS (.not (.call 0 (.cons (.var 0) (.cons (.con (.int 1)) (.cons (.var 2) .nil))))) (.cons (.raise 4 (.cons (.con (.str [110, 111, 116, 32, 97, 32, 115, 105, 122, 101])) .nil))
 .nil) .nil)
 (.cons (.ifS (.not (.call 0 (.cons (.var 1) (.cons (.con (.int 1)) (.cons (.var 3) .nil))))) (.cons (.raise 5 (.cons (.con (.str [110, 111, 116, 32, 97, 32, 110, 117, 109, 98, 101, 114, 32, 111, 102, 32, 99, 111, 108, 111, 117, 114, 115])) .nil))
 .nil) .nil)
 .nil))
def f6 : PF := ⟨"_check", top 22, ["size", "colours", "most_size", "most_colours"], ["size", "colours", "most_size", "most_colours"], ⟨4, 4, b6⟩⟩
def b7 : CSs := (.cons (.asg (.var 2) (.con (.int 1)))
 (.cons (.forS (.var 3) (.rng (.cons (.var 1) .nil)) (.cons (.aug 2 .mul (.var 0))
 .nil))
 (.cons (.ret (.var 2))
 .nil)))
def f7 : PF := ⟨"_power", top 23, ["base", "count", "found", "_time"], ["base", "count"], ⟨2, 4, b7⟩⟩
def b8 : CSs := (.cons (.asg (.var 1) (.blt 2 (.cons (.slc (.glob 0) .nil (.cons (.var 0) .nil)) .nil)))
 (.cons (.asg (.var 2) (.comp2 [3, 4] (.var 3) (.seq (.var 1)) .nil [4] (.var 4) (.seq (.var 1)) (.cons (.cmp .ne (.var 3) (.var 4)) .nil) (.tup (.cons (.var 3) (.cons (.var 4) .nil)))))
 (.cons (.ret (.bin .add (.bin .add (.var 1) (.comp [5] (.var 5) (.seq (.var 2)) .nil (.bin .add (.tup (.cons (.glob 3) .nil)) (.var 5)))) (.comp [5] (.var 5) (.seq (.var 2)) .nil (.bin .add (.tup (.cons (.glob 4) .nil)) (.var 5)))))
 .nil)))
def f8 : PF := ⟨"_all_cells", top 24, ["colours", "letters", "pairs", "one", "other", "pair"], ["colours"], ⟨1, 6, b8⟩⟩
def b9 : CSs := (.cons (.expr (.call 6 (.cons (.var 0) (.cons (.var 1) (.cons (.glob 2) (.cons (.glob 5) .nil))))))
 (.cons (.ret (.call 7 (.cons (.blt 0 (.cons (.call 8 (.cons (.var 1) .nil)) .nil)) (.cons (.bin .mul (.var 0) (.var 0)) .nil))))
 .nil))
def f9 : PF := ⟨"count_blocks", top 25, ["size", "colours"], ["size", "colours"], ⟨2, 2, b9⟩⟩
def b10 : CSs := (.cons (.expr (.call 6 (.cons (.var 0) (.cons (.var 1) (.cons (.glob 2) (.cons (.glob 5) .nil))))))
 (.cons (.asg (.var 3) (.call 8 (.cons (.var 1) .nil)))
 (.cons (.ifS (.not (.call 0 (.cons (.var 2) (.cons (.con (.int 0)) (.cons (.bin .sub (.call 7 (.cons (.blt 0 (.cons (.var 3) .nil)) (.cons (.bin .mul (.var 0) (.var 0)) .nil))) (.con (.int 1))) .nil))))) (.cons (.raise 1 (.cons (.con (.str [110, 111, 116, 32, 116, 104, 101, 32, 110, 117, 109, 98, 101, 114, 32, 111, 102, 32, 97, 32, 98, 108, 111, 99, 107])) .nil))
 .nil) .nil)
 (.cons (.asg (.var 4) (.lst .nil))
 (.cons (.forS (.var 5) (.rng (.cons (.bin .mul (.var 0) (.var 0)) .nil)) (.cons (.app 4 (.idx (.var 3) (.bin .mod (.var 2) (.blt 0 (.cons (.var 3) .nil)))))
 (.cons (.aug 2 .fdiv (.blt 0 (.cons (.var 3) .nil)))
 .nil)))
 (.cons (.asg (.var 4) (.rev (.var 4)))
 (.cons (.ret (.blt 1 (.cons (.comp [6] (.var 6) (.rng (.cons (.var 0) .nil)) .nil (.blt 1 (.cons (.slc (.var 4) (.cons (.bin .mul (.var 0) (.var 6)) .nil) (.cons (.bin .add (.bin .mul (.var 0) (.var 6)) (.var 0)) .nil)) .nil))) .nil)))
 .nil)))))))
def f10 : PF := ⟨"block_at", top 26, ["size", "colours", "number", "cells", "found", "_place", "row"], ["size", "colours", "number"], ⟨3, 7, b10⟩⟩
def b11 : CSs := (.cons (.expr (.call 4 (.cons (.var 0) .nil)))
 (.cons (.expr (.call 6 (.cons (.blt 0 (.cons (.var 0) .nil)) (.cons (.var 1) (.cons (.glob 2) (.cons (.glob 5) .nil))))))
 (.cons (.asg (.var 2) (.call 8 (.cons (.var 1) .nil)))
 (.cons (.asg (.var 3) (.con (.int 0)))
 (.cons (.forS (.var 4) (.seq (.call 5 (.cons (.var 0) .nil))) (.cons (.ifS (.cmp .notin (.var 4) (.var 2)) (.cons (.raise 2 (.cons (.con (.str [97, 110, 111, 116, 104, 101, 114, 32, 99, 111, 108, 111, 117, 114])) .nil))
 .nil) .nil)
 (.cons (.asg (.var 3) (.bin .add (.bin .mul (.var 3) (.blt 0 (.cons (.var 2) .nil))) (.mth 2 (.var 2) (.cons (.var 4) .nil))))
 .nil)))
 (.cons (.ret (.var 3))
 .nil))))))
def f11 : PF := ⟨"number_of", top 27, ["block", "colours", "cells", "number", "cell"], ["block", "colours"], ⟨2, 5, b11⟩⟩
def b12 : CSs := (.cons (.asg (.var 2) (.lst .nil))
 (.cons (.asg (.var 3) (.con (.int 7)))
 (.cons (.forS (.var 4) (.seq (.slc (.var 0) .nil (.cons (.con (.int 63)) .nil))) (.cons (.asg (.var 6) (.blt 9 (.cons (.var 4) .nil)))
 (.cons (.asg (.var 3) (.bin .mod (.blt 10 (.cons (.bin .add (.bin .add (.bin .mul (.var 3) (.con (.int 48271))) (.var 6)) (.con (.int 11))) .nil)) (.con (.int 2147483647))))
 (.cons (.ifS (.cmp .ge (.var 6) (.bin .pow (.con (.int 10)) (.con (.int 18)))) (.cons (.forS (.var 5) (.rng (.cons (.con (.int 60)) .nil)) (.cons (.ifS (.cmp .gt (.var 6) (.con (.int 0))) (.cons (.app 2 (.bin .mod (.blt 10 (.cons (.var 6) .nil)) (.con (.int 1009))))
 (.cons (.asg (.var 6) (.bin .fdiv (.var 6) (.con (.int 1009))))
 .nil)) .nil)
 .nil))
 .nil) (.cons (.app 2 (.bin .mod (.bin .fdiv (.blt 10 (.cons (.bin .add (.bin .mul (.var 3) (.con (.int 16807))) (.con (.int 5))) .nil)) (.con (.int 3))) (.con (.int 65521))))
 .nil))
 .nil))))
 (.cons (.forS (.var 5) (.rng (.cons (.var 1) .nil)) (.cons (.ifS (.cmp .lt (.blt 0 (.cons (.var 2) .nil)) (.var 1)) (.cons (.asg (.var 3) (.bin .mod (.blt 10 (.cons (.bin .add (.bin .add (.bin .mul (.var 3) (.con (.int 69621))) (.var 5)) (.con (.int 1))) .nil)) (.con (.int 2147483647))))
 (.cons (.app 2 (.bin .mod (.bin .fdiv (.blt 10 (.cons (.var 3) .nil)) (.con (.int 7))) (.con (.int 65521))))
 .nil)) .nil)
 .nil))
 (.cons (.ret (.slc (.var 2) .nil (.cons (.var 1) .nil)))
 .nil)))))
def f12 : PF := ⟨"_law_draws", top 29, ["script", "many", "draws", "seed", "cell", "k", "number"], ["script", "many"], ⟨2, 7, b12⟩⟩
def b13 : CSs := (.cons (.ret (.con (.str [47])))
 .nil)
def f13 : PF := ⟨"_law_rising", top 30, [], [], ⟨0, 0, b13⟩⟩
def b14 : CSs := (.cons (.ret (.con (.str [92])))
 .nil)
def f14 : PF := ⟨"_law_falling", top 31, [], [], ⟨0, 0, b14⟩⟩
def b15 : CSs := (.cons (.par [4, 5] (.cons (.slc (.lst (.cons (.con (.str [97])) (.cons (.con (.str [98, 98])) (.cons (.con (.str [99])) (.cons (.con (.str [100])) .nil))))) .nil (.cons (.var 2) .nil)) (.cons (.lst .nil) .nil)))
 (.cons (.forS (.var 3) (.rng (.cons (.var 1) .nil)) (.cons (.asg (.var 6) (.lst .nil))
 (.cons (.forS (.var 7) (.rng (.cons (.var 1) .nil)) (.cons (.asg (.var 8) (.bin .fdiv (.blt 10 (.cons (.idx (.var 0) (.bin .mod (.bin .add (.bin .mul (.var 1) (.var 3)) (.var 7)) (.blt 0 (.cons (.var 0) .nil)))) .nil)) (.bin .add (.con (.int 1)) (.var 3))))
 (.cons (.par [9, 10] (.cons (.idx (.var 4) (.bin .mod (.var 8) (.var 2))) (.cons (.idx (.var 4) (.bin .mod (.bin .fdiv (.var 8) (.con (.int 4))) (.var 2))) .nil)))
 (.cons (.app 6 (.ite (.or (.cmp .eq (.var 9) (.var 10)) (.cons (.cmp .eq (.bin .mod (.bin .fdiv (.var 8) (.con (.int 16))) (.con (.int 3))) (.con (.int 0))) .nil)) (.var 9) (.tup (.cons (.idx (.lst (.cons (.call 13 .nil) (.cons (.call 14 .nil) .nil))) (.bin .mod (.bin .fdiv (.var 8) (.con (.int 48))) (.con (.int 2)))) (.cons (.var 9) (.cons (.var 10) .nil))))))
 .nil))))
 (.cons (.app 5 (.blt 1 (.cons (.var 6) .nil)))
 .nil))))
 (.cons (.ret (.blt 1 (.cons (.var 5) .nil)))
 .nil)))
def f15 : PF := ⟨"_law_block", top 32, ["draws", "size", "colours", "row", "letters", "rows", "cells", "column", "draw", "one", "two"], ["draws", "size", "colours"], ⟨3, 11, b15⟩⟩
def b16 : CSs := (.cons (.asg (.var 1) (.blt 2 (.cons (.slc (.con (.str [97, 98, 99, 100, 101, 102, 103, 104])) .nil (.cons (.var 0) .nil)) .nil)))
 (.cons (.asg (.var 2) (.lst .nil))
 (.cons (.forS (.var 3) (.seq (.var 1)) (.cons (.asg (.var 2) (.bin .add (.var 2) (.comp [5] (.var 5) (.seq (.var 1)) (.cons (.cmp .ne (.var 5) (.var 3)) .nil) (.tup (.cons (.var 3) (.cons (.var 5) .nil))))))
 .nil))
 (.cons (.ret (.bin .add (.bin .add (.var 1) (.comp [4] (.var 4) (.seq (.var 2)) .nil (.bin .add (.tup (.cons (.call 13 .nil) .nil)) (.var 4)))) (.comp [4] (.var 4) (.seq (.var 2)) .nil (.bin .add (.tup (.cons (.call 14 .nil) .nil)) (.var 4)))))
 .nil))))
def f16 : PF := ⟨"_law_cells", top 33, ["colours", "letters", "pairs", "one", "pair", "two"], ["colours"], ⟨1, 6, b16⟩⟩
def b17 : CSs := (.cons (.par [4, 5] (.cons (.call 16 (.cons (.var 1) .nil)) (.cons (.lst .nil) .nil)))
 (.cons (.forS (.var 3) (.rng (.cons (.var 0) .nil)) (.cons (.asg (.var 6) (.lst .nil))
 (.cons (.forS (.var 7) (.rng (.cons (.var 0) .nil)) (.cons (.asg (.var 6) (.bin .add (.lst (.cons (.idx (.var 4) (.bin .mod (.var 2) (.blt 0 (.cons (.var 4) .nil)))) .nil)) (.var 6)))
 (.cons (.asg (.var 2) (.bin .fdiv (.var 2) (.blt 0 (.cons (.var 4) .nil))))
 .nil)))
 (.cons (.asg (.var 5) (.bin .add (.lst (.cons (.blt 1 (.cons (.var 6) .nil)) .nil)) (.var 5)))
 .nil))))
 (.cons (.ret (.blt 1 (.cons (.var 5) .nil)))
 .nil)))
def f17 : PF := ⟨"_law_at", top 34, ["size", "colours", "number", "row", "cells", "rows", "own", "column"], ["size", "colours", "number"], ⟨3, 8, b17⟩⟩
def b18 : CSs := (.cons (.tryS (.cons (.ifS (.cmp .eq (.var 0) (.con (.int 0))) (.cons (.expr (.call 10 (.cons (.var 1) (.cons (.var 2) (.cons (.var 3) .nil)))))
 .nil) (.cons (.expr (.call 11 (.cons (.var 1) (.cons (.var 2) .nil))))
 .nil))
 .nil) [([4], (.ret (.str [115, 105, 122, 101]))), ([5], (.ret (.str [110, 117, 109, 98, 101, 114]))), ([1], (.ret (.str [112, 108, 97, 99, 101]))), ([3], (.ret (.str [98, 108, 111, 99, 107]))), ([0], (.isi 2 (.str [99, 111, 108, 111, 117, 114]) (.str [111, 116, 104, 101, 114])))])
 (.cons (.ret (.con (.str [110, 111, 110, 101])))
 .nil))
def f18 : PF := ⟨"_law_first", top 35, ["way", "size", "colours", "number", "e"], ["way", "size", "colours", "number"], ⟨4, 5, b18⟩⟩
def b19 : CSs := (.cons (.asg (.var 1) (.dct (.cons (.con (.str [97])) (.cons (.con (.str [98, 98])) (.cons (.con (.str [99])) (.cons (.con (.str [100])) .nil)))) (.cons (.con (.str [97])) (.cons (.con (.str [98])) (.cons (.con (.str [99])) (.cons (.con (.str [100])) .nil))))))
 (.cons (.ret (.ite (.isi (.var 0) .str) (.idx (.var 1) (.var 0)) (.tup (.cons (.idx (.var 0) (.con (.int 0))) (.cons (.idx (.var 1) (.idx (.var 0) (.con (.int 1)))) (.cons (.idx (.var 1) (.idx (.var 0) (.con (.int 2)))) .nil))))))
 .nil))
def f19 : PF := ⟨"_law_letter", top 36, ["cell", "letters"], ["cell"], ⟨1, 2, b19⟩⟩
def b20 : CSs := (.cons (.asg (.var 1) (.call 12 (.cons (.var 0) (.cons (.con (.int 60)) .nil))))
 (.cons (.forS (.var 2) (.rng (.cons (.con (.int 5)) .nil)) (.cons (.par [9, 10] (.cons (.bin .add (.con (.int 1)) (.bin .mod (.blt 10 (.cons (.idx (.var 1) (.var 2)) .nil)) (.con (.int 5)))) (.cons (.bin .add (.con (.int 1)) (.bin .mod (.blt 10 (.cons (.idx (.var 1) (.bin .add (.con (.int 5)) (.var 2))) .nil)) (.con (.int 8)))) .nil)))
 (.cons (.par [11, 12] (.cons (.call 9 (.cons (.var 9) (.cons (.var 10) .nil))) (.cons (.con (.int 0)) .nil)))
 (.cons (.forS (.var 4) (.rng (.cons (.con (.int 12)) .nil)) (.cons (.asg (.var 12) (.bin .add (.bin .mul (.var 12) (.con (.int 65521))) (.blt 10 (.cons (.idx (.var 1) (.bin .mod (.bin .add (.bin .add (.con (.int 10)) (.bin .mul (.con (.int 3)) (.var 2))) (.var 4)) (.con (.int 60)))) .nil))))
 .nil))
 (.cons (.forS (.var 5) (.seq (.lst (.cons (.bin .mod (.var 12) (.var 11)) (.cons (.con (.int 0)) (.cons (.bin .sub (.var 11) (.con (.int 1))) (.cons (.bin .mod (.bin .fdiv (.var 12) (.con (.int 7))) (.var 11)) (.cons (.bin .mod (.bin .add (.var 12) (.con (.int 1))) (.var 11)) .nil))))))) (.cons (.asg (.var 13) (.call 17 (.cons (.var 9) (.cons (.var 10) (.cons (.var 5) .nil)))))
 (.cons (.ifS (.or (.cmp .ne (.call 10 (.cons (.var 9) (.cons (.var 10) (.cons (.var 5) .nil)))) (.var 13)) (.cons (.cmp .ne (.call 11 (.cons (.var 13) (.cons (.var 10) .nil))) (.var 5)) .nil)) (.cons (.ret (.con (.bl false)))
 .nil) .nil)
 .nil)))
 (.cons (.asg (.var 6) (.call 15 (.cons (.bin .add (.slc (.var 1) (.cons (.bin .mul (.con (.int 9)) (.var 2)) .nil) .nil) (.var 1)) (.cons (.var 9) (.cons (.blt 5 (.cons (.con (.int 4)) (.cons (.bin .add (.con (.int 1)) (.bin .mod (.blt 10 (.cons (.idx (.var 1) (.bin .add (.con (.int 30)) (.var 2))) .nil)) (.con (.int 4)))) .nil))) .nil)))))
 (.cons (.asg (.var 7) (.blt 1 (.cons (.comp [14] (.var 14) (.seq (.var 6)) .nil (.blt 1 (.cons (.comp [15] (.var 15) (.seq (.var 14)) .nil (.call 19 (.cons (.var 15) .nil))) .nil))) .nil)))
 (.cons (.ifS (.or (.cmp .ne (.call 10 (.cons (.var 9) (.cons (.con (.int 4)) (.cons (.call 11 (.cons (.var 7) (.cons (.con (.int 4)) .nil))) .nil)))) (.var 7)) (.cons (.cmp .ne (.call 18 (.cons (.con (.int 1)) (.cons (.slc (.bin .add (.tup (.cons (.tup (.cons (.con (.str [122, 122])) .nil)) .nil)) (.tup (.cons (.tup (.cons (.con (.str [122, 122])) .nil)) .nil))) .nil (.cons (.con (.int 1)) .nil)) (.cons (.con (.int 4)) (.cons (.con .non) .nil))))) (.con (.str [99, 111, 108, 111, 117, 114]))) .nil)) (.cons (.ret (.con (.bl false)))
 .nil) .nil)
 (.cons (.forS (.var 8) (.seq (.lst (.cons (.var 11) (.cons (.neg (.con (.int 1))) (.cons (.con (.bl true)) (.cons (.con .non) (.cons (.con (.str [48])) .nil))))))) (.cons (.ifS (.cmp .ne (.call 18 (.cons (.con (.int 0)) (.cons (.var 9) (.cons (.var 10) (.cons (.var 8) .nil))))) (.con (.str [112, 108, 97, 99, 101]))) (.cons (.ret (.con (.bl false)))
 .nil) .nil)
 .nil))
 (.cons (.forS (.var 8) (.seq (.lst (.cons (.con (.int 0)) (.cons (.con (.int 9)) (.cons (.con (.bl true)) (.cons (.con .non) (.cons (.con (.str [50])) .nil))))))) (.cons (.ifS (.or (.cmp .ne (.call 18 (.cons (.con (.int 0)) (.cons (.var 9) (.cons (.var 8) (.cons (.con .non) .nil))))) (.con (.str [110, 117, 109, 98, 101, 114]))) (.cons (.cmp .ne (.call 18 (.cons (.con (.int 1)) (.cons (.var 7) (.cons (.var 8) (.cons (.con .non) .nil))))) (.con (.str [110, 117, 109, 98, 101, 114]))) .nil)) (.cons (.ret (.con (.bl false)))
 .nil) .nil)
 .nil))
 (.cons (.forS (.var 8) (.seq (.lst (.cons (.con (.int 0)) (.cons (.con (.int 7)) (.cons (.con (.bl true)) (.cons (.con .non) (.cons (.con (.str [50])) .nil))))))) (.cons (.ifS (.cmp .ne (.call 18 (.cons (.con (.int 0)) (.cons (.var 8) (.cons (.con .non) (.cons (.con .non) .nil))))) (.con (.str [115, 105, 122, 101]))) (.cons (.ret (.con (.bl false)))
 .nil) .nil)
 .nil))
 (.cons (.forS (.var 8) (.seq (.lst (.cons (.con .non) (.cons (.tup .nil) (.cons (.blt 2 (.cons (.var 7) .nil)) (.cons (.tup (.cons (.tup (.cons (.con .non) .nil)) .nil)) (.cons (.con (.int 7)) .nil))))))) (.cons (.ifS (.cmp .ne (.call 18 (.cons (.con (.int 1)) (.cons (.var 8) (.cons (.con .non) (.cons (.con .non) .nil))))) (.con (.str [98, 108, 111, 99, 107]))) (.cons (.ret (.con (.bl false)))
 .nil) .nil)
 .nil))
 .nil))))))))))))
 (.cons (.asg (.var 3) (.tup (.cons (.tup (.cons (.tup (.cons (.call 14 .nil) (.cons (.con (.str [98])) (.cons (.con (.str [97])) .nil)))) .nil)) .nil)))
 (.cons (.ret (.and (.cmp .eq (.call 11 (.cons (.var 3) (.cons (.con (.int 2)) .nil))) (.con (.int 5))) (.cons (.cmp .eq (.call 10 (.cons (.con (.int 1)) (.cons (.con (.int 2)) (.cons (.con (.int 2)) .nil)))) (.tup (.cons (.tup (.cons (.tup (.cons (.call 13 .nil) (.cons (.con (.str [97])) (.cons (.con (.str [98])) .nil)))) .nil)) .nil))) (.cons (.cmp .eq (.call 18 (.cons (.con (.int 1)) (.cons (.var 3) (.cons (.con (.int 1)) (.cons (.con .non) .nil))))) (.con (.str [99, 111, 108, 111, 117, 114]))) (.cons (.cmp .eq (.call 11 (.cons (.tup (.cons (.tup (.cons (.con (.str [97])) (.cons (.con (.str [98])) .nil))) (.cons (.tup (.cons (.con (.str [98])) (.cons (.con (.str [97])) .nil))) .nil))) (.cons (.con (.int 2)) .nil))) (.con (.int 42))) .nil)))))
 .nil))))
def f20 : PF := ⟨"law", top 37, ["script", "draws", "turn", "half", "k", "place", "block", "plain", "wrong", "size", "colours", "many", "number", "due", "row", "cell"], ["script"], ⟨1, 16, b20⟩⟩
def fs : List PF := [f0, f1, f2, f3, f4, f5, f6, f7, f8, f9, f10, f11, f12, f13, f14, f15, f16, f17, f18, f19, f20]
def cons : List D := [(.str [97, 98, 99, 100, 101, 102, 103, 104, 105, 106, 107, 108, 109, 110, 111, 112, 113, 114, 115, 116, 117, 118, 119, 120, 121, 122]), (.int 8), (.int 6), (.str [47]), (.str [92]), (.int 8)]
def sub : Nat → Nat → Bool := fun a b => match a, b with | 0, 0 => true | 1, 0 => true | 1, 1 => true | 2, 0 => true | 2, 2 => true | 3, 0 => true | 3, 3 => true | 4, 0 => true | 4, 4 => true | 5, 0 => true | 5, 5 => true | _, _ => false
def tb : Tb := ⟨cons, stdB, stdM, sub⟩
def ts : Tabs := ⟨["LETTERS", "MOST_LETTERS", "MOST_SIZE", "RISING", "FALLING", "MOST_COLOURS"], fs.map fun F => (F.x, F.ps.length), ["SeamError", "BadPlace", "BadColour", "BadBlock", "BadSize", "BadNumber"]⟩

theorem ok_all : fs.all (okF ts) = true := by decide +kernel
theorem law_ev : ∀ ns : List Int, ns.length ≤ 63 → ∃ fl, (fl == Fl.fr) = false ∧ callN tb (fs.map (·.fn)) 100 12 20 [.set (ns.map D.int)] = some (.ok (fl, .bl true)) := by
  intro ns h
  have e : fs.map (·.fn) = K24.Pg := rfl
  have e2 : tb = K24.tb := rfl
  rw [e, e2]
  exact K24.law_ev ns h
end K24F
open PySem PySem.W PyProof.Rows
set_option maxRecDepth 100000 in
set_option maxHeartbeats 0 in
theorem PySem.Challenge.cw_seamwright_k24_whole_numbers_of_blocks_holds : PySem.Challenge.rw_seamwright_k24_whole_numbers_of_blocks.Holds := by
  w_on; o_law; k_head; (case hw => w_witness2)
  k_fill
  refine Ev.walkE (l := PySem.Challenge.rw_seamwright_k24_whole_numbers_of_blocks) (n := 12) rfl rfl ⟨rfl, by decide, by decide⟩ (fun w h Y => PySem.W.kIn_of Y) ?F
  case F =>
    intro w mg fa h KX G hmg
    refine' Ev.law_end (n := 12) (fu := 100) (f := 20) (F := K24F.f20) (Ev.top_mk (ts := K24F.ts) (T := K24F.tb) (fs := K24F.fs) (Cs := ?Cs) rfl rfl rfl ?nd ?rf ?con ?err ?sub ?blt ?fun_) K24F.ok_all rfl rfl hmg (fun _ _ _ _ _ _ _ => rfl) K24F.law_ev
    case err =>
     refine' Ev.ErrL.cons (Ev.mkErr (x := "SeamError") KX G ?a1 ?kp1 ?ex1 ?ty1 ?me1 ?hg1 ?hk1 ?hd1 ?ha1 ?hn1 ?ht1 ?hm1) ?r1; (case a1 => k_is); (case kp1 => k_is); (case ex1 => k_is); (case ty1 => k_is); (case me1 => k_exc); (case hg1 => k_is); (case hk1 => k_is); (case hd1 => k_is); (case ha1 => k_is); (case hn1 => k_is); (case ht1 => k_is); (case hm1 => k_is)
     case r1 =>
      refine' Ev.ErrL.cons (Ev.mkErr (x := "BadPlace") KX G ?a2 ?kp2 ?ex2 ?ty2 ?me2 ?hg2 ?hk2 ?hd2 ?ha2 ?hn2 ?ht2 ?hm2) ?r2; (case a2 => k_is); (case kp2 => k_is); (case ex2 => k_is); (case ty2 => k_is); (case me2 => k_exc); (case hg2 => k_is); (case hk2 => k_is); (case hd2 => k_is); (case ha2 => k_is); (case hn2 => k_is); (case ht2 => k_is); (case hm2 => k_is)
      case r2 =>
       refine' Ev.ErrL.cons (Ev.mkErr (x := "BadColour") KX G ?a3 ?kp3 ?ex3 ?ty3 ?me3 ?hg3 ?hk3 ?hd3 ?ha3 ?hn3 ?ht3 ?hm3) ?r3; (case a3 => k_is); (case kp3 => k_is); (case ex3 => k_is); (case ty3 => k_is); (case me3 => k_exc); (case hg3 => k_is); (case hk3 => k_is); (case hd3 => k_is); (case ha3 => k_is); (case hn3 => k_is); (case ht3 => k_is); (case hm3 => k_is)
       case r3 =>
        refine' Ev.ErrL.cons (Ev.mkErr (x := "BadBlock") KX G ?a4 ?kp4 ?ex4 ?ty4 ?me4 ?hg4 ?hk4 ?hd4 ?ha4 ?hn4 ?ht4 ?hm4) ?r4; (case a4 => k_is); (case kp4 => k_is); (case ex4 => k_is); (case ty4 => k_is); (case me4 => k_exc); (case hg4 => k_is); (case hk4 => k_is); (case hd4 => k_is); (case ha4 => k_is); (case hn4 => k_is); (case ht4 => k_is); (case hm4 => k_is)
        case r4 =>
         refine' Ev.ErrL.cons (Ev.mkErr (x := "BadSize") KX G ?a5 ?kp5 ?ex5 ?ty5 ?me5 ?hg5 ?hk5 ?hd5 ?ha5 ?hn5 ?ht5 ?hm5) ?r5; (case a5 => k_is); (case kp5 => k_is); (case ex5 => k_is); (case ty5 => k_is); (case me5 => k_exc); (case hg5 => k_is); (case hk5 => k_is); (case hd5 => k_is); (case ha5 => k_is); (case hn5 => k_is); (case ht5 => k_is); (case hm5 => k_is)
         case r5 =>
          refine' Ev.ErrL.cons (Ev.mkErr (x := "BadNumber") KX G ?a6 ?kp6 ?ex6 ?ty6 ?me6 ?hg6 ?hk6 ?hd6 ?ha6 ?hn6 ?ht6 ?hm6) ?r6; (case a6 => k_is); (case kp6 => k_is); (case ex6 => k_is); (case ty6 => k_is); (case me6 => k_exc); (case hg6 => k_is); (case hk6 => k_is); (case hd6 => k_is); (case ha6 => k_is); (case hn6 => k_is); (case ht6 => k_is); (case hm6 => k_is)
          case r6 =>
           exact Ev.ErrL.nil
    case sub =>
     refine' Ev.SubC.cons ?z7 ?rr7
     case z7 =>
      refine' Ev.SubJ.cons ?s8 ?t8; (case s8 => first | rfl | k_is)
      case t8 =>
       refine' Ev.SubJ.cons ?s9 ?t9; (case s9 => first | rfl | k_is)
       case t9 =>
        refine' Ev.SubJ.cons ?s10 ?t10; (case s10 => first | rfl | k_is)
        case t10 =>
         refine' Ev.SubJ.cons ?s11 ?t11; (case s11 => first | rfl | k_is)
         case t11 =>
          refine' Ev.SubJ.cons ?s12 ?t12; (case s12 => first | rfl | k_is)
          case t12 =>
           refine' Ev.SubJ.cons ?s13 ?t13; (case s13 => first | rfl | k_is)
           case t13 =>
            exact Ev.SubJ.nil
     case rr7 =>
      refine' Ev.SubC.cons ?z14 ?rr14
      case z14 =>
       refine' Ev.SubJ.cons ?s15 ?t15; (case s15 => first | rfl | k_is)
       case t15 =>
        refine' Ev.SubJ.cons ?s16 ?t16; (case s16 => first | rfl | k_is)
        case t16 =>
         refine' Ev.SubJ.cons ?s17 ?t17; (case s17 => first | rfl | k_is)
         case t17 =>
          refine' Ev.SubJ.cons ?s18 ?t18; (case s18 => first | rfl | k_is)
          case t18 =>
           refine' Ev.SubJ.cons ?s19 ?t19; (case s19 => first | rfl | k_is)
           case t19 =>
            refine' Ev.SubJ.cons ?s20 ?t20; (case s20 => first | rfl | k_is)
            case t20 =>
             exact Ev.SubJ.nil
      case rr14 =>
       refine' Ev.SubC.cons ?z21 ?rr21
       case z21 =>
        refine' Ev.SubJ.cons ?s22 ?t22; (case s22 => first | rfl | k_is)
        case t22 =>
         refine' Ev.SubJ.cons ?s23 ?t23; (case s23 => first | rfl | k_is)
         case t23 =>
          refine' Ev.SubJ.cons ?s24 ?t24; (case s24 => first | rfl | k_is)
          case t24 =>
           refine' Ev.SubJ.cons ?s25 ?t25; (case s25 => first | rfl | k_is)
           case t25 =>
            refine' Ev.SubJ.cons ?s26 ?t26; (case s26 => first | rfl | k_is)
            case t26 =>
             refine' Ev.SubJ.cons ?s27 ?t27; (case s27 => first | rfl | k_is)
             case t27 =>
              exact Ev.SubJ.nil
       case rr21 =>
        refine' Ev.SubC.cons ?z28 ?rr28
        case z28 =>
         refine' Ev.SubJ.cons ?s29 ?t29; (case s29 => first | rfl | k_is)
         case t29 =>
          refine' Ev.SubJ.cons ?s30 ?t30; (case s30 => first | rfl | k_is)
          case t30 =>
           refine' Ev.SubJ.cons ?s31 ?t31; (case s31 => first | rfl | k_is)
           case t31 =>
            refine' Ev.SubJ.cons ?s32 ?t32; (case s32 => first | rfl | k_is)
            case t32 =>
             refine' Ev.SubJ.cons ?s33 ?t33; (case s33 => first | rfl | k_is)
             case t33 =>
              refine' Ev.SubJ.cons ?s34 ?t34; (case s34 => first | rfl | k_is)
              case t34 =>
               exact Ev.SubJ.nil
        case rr28 =>
         refine' Ev.SubC.cons ?z35 ?rr35
         case z35 =>
          refine' Ev.SubJ.cons ?s36 ?t36; (case s36 => first | rfl | k_is)
          case t36 =>
           refine' Ev.SubJ.cons ?s37 ?t37; (case s37 => first | rfl | k_is)
           case t37 =>
            refine' Ev.SubJ.cons ?s38 ?t38; (case s38 => first | rfl | k_is)
            case t38 =>
             refine' Ev.SubJ.cons ?s39 ?t39; (case s39 => first | rfl | k_is)
             case t39 =>
              refine' Ev.SubJ.cons ?s40 ?t40; (case s40 => first | rfl | k_is)
              case t40 =>
               refine' Ev.SubJ.cons ?s41 ?t41; (case s41 => first | rfl | k_is)
               case t41 =>
                exact Ev.SubJ.nil
         case rr35 =>
          refine' Ev.SubC.cons ?z42 ?rr42
          case z42 =>
           refine' Ev.SubJ.cons ?s43 ?t43; (case s43 => first | rfl | k_is)
           case t43 =>
            refine' Ev.SubJ.cons ?s44 ?t44; (case s44 => first | rfl | k_is)
            case t44 =>
             refine' Ev.SubJ.cons ?s45 ?t45; (case s45 => first | rfl | k_is)
             case t45 =>
              refine' Ev.SubJ.cons ?s46 ?t46; (case s46 => first | rfl | k_is)
              case t46 =>
               refine' Ev.SubJ.cons ?s47 ?t47; (case s47 => first | rfl | k_is)
               case t47 =>
                refine' Ev.SubJ.cons ?s48 ?t48; (case s48 => first | rfl | k_is)
                case t48 =>
                 exact Ev.SubJ.nil
          case rr42 =>
           exact Ev.SubC.nil
    case nd => decide
    case rf => decide
    case con =>
     refine' Ev.ConL.cons (x := "LETTERS") (PySem.W.mg_of KX G ?a49) ?r49 (fun H => Ev.Rep.str _) ?t49; (case a49 => k_is); (case r49 => exact ⟨_, rfl⟩)
     case t49 =>
      refine' Ev.ConL.cons (x := "MOST_LETTERS") (PySem.W.mg_of KX G ?a50) ?r50 (fun H => Ev.Rep.int _) ?t50; (case a50 => k_is); (case r50 => exact ⟨_, rfl⟩)
      case t50 =>
       refine' Ev.ConL.cons (x := "MOST_SIZE") (PySem.W.mg_of KX G ?a51) ?r51 (fun H => Ev.Rep.int _) ?t51; (case a51 => k_is); (case r51 => exact ⟨_, rfl⟩)
       case t51 =>
        refine' Ev.ConL.cons (x := "RISING") (PySem.W.mg_of KX G ?a52) ?r52 (fun H => Ev.Rep.str _) ?t52; (case a52 => k_is); (case r52 => exact ⟨_, rfl⟩)
        case t52 =>
         refine' Ev.ConL.cons (x := "FALLING") (PySem.W.mg_of KX G ?a53) ?r53 (fun H => Ev.Rep.str _) ?t53; (case a53 => k_is); (case r53 => exact ⟨_, rfl⟩)
         case t53 =>
          refine' Ev.ConL.cons (x := "MOST_COLOURS") (PySem.W.mg_of KX G ?a54) ?r54 (fun H => Ev.Rep.int _) ?t54; (case a54 => k_is); (case r54 => exact ⟨_, rfl⟩)
          case t54 =>
           exact Ev.ConL.nil
    case blt =>
      intro x hx
      simp only [Ev.bltAll, List.mem_cons, List.not_mem_nil, or_false] at hx
      rcases hx with rfl | rfl | rfl | rfl | rfl | rfl | rfl | rfl | rfl | rfl | rfl | rfl | rfl | rfl | rfl | rfl | rfl | rfl | rfl
      all_goals (refine' PySem.W.mg_none_of KX G ?_; k_is)
    case fun_ =>
     refine' Ev.FunL.cons (F := K24F.f0) (Ev.mkFun "is_whole" (K24F.top 10) rfl rfl KX G ?a55 ?l55 ?c55 ?k55 (fun _ _ _ _ _ _ us hl => match us, hl with | [_, _, _], _ => rfl)) ?r55; (case a55 => k_is); (case l55 => k_is); (case c55 => k_is); (case k55 => k_is)
     case r55 =>
      refine' Ev.FunL.cons (F := K24F.f1) (Ev.mkFun "is_colour" (K24F.top 11) rfl rfl KX G ?a56 ?l56 ?c56 ?k56 (fun _ _ _ _ _ _ us hl => match us, hl with | [_], _ => rfl)) ?r56; (case a56 => k_is); (case l56 => k_is); (case c56 => k_is); (case k56 => k_is)
      case r56 =>
       refine' Ev.FunL.cons (F := K24F.f2) (Ev.mkFun "_is_cell" (K24F.top 16) rfl rfl KX G ?a57 ?l57 ?c57 ?k57 (fun _ _ _ _ _ _ us hl => match us, hl with | [_], _ => rfl)) ?r57; (case a57 => k_is); (case l57 => k_is); (case c57 => k_is); (case k57 => k_is)
       case r57 =>
        refine' Ev.FunL.cons (F := K24F.f3) (Ev.mkFun "is_block" (K24F.top 17) rfl rfl KX G ?a58 ?l58 ?c58 ?k58 (fun _ _ _ _ _ _ us hl => match us, hl with | [_], _ => rfl)) ?r58; (case a58 => k_is); (case l58 => k_is); (case c58 => k_is); (case k58 => k_is)
        case r58 =>
         refine' Ev.FunL.cons (F := K24F.f4) (Ev.mkFun "check_block" (K24F.top 18) rfl rfl KX G ?a59 ?l59 ?c59 ?k59 (fun _ _ _ _ _ _ us hl => match us, hl with | [_], _ => rfl)) ?r59; (case a59 => k_is); (case l59 => k_is); (case c59 => k_is); (case k59 => k_is)
         case r59 =>
          refine' Ev.FunL.cons (F := K24F.f5) (Ev.mkFun "cells_in" (K24F.top 19) rfl rfl KX G ?a60 ?l60 ?c60 ?k60 (fun _ _ _ _ _ _ us hl => match us, hl with | [_], _ => rfl)) ?r60; (case a60 => k_is); (case l60 => k_is); (case c60 => k_is); (case k60 => k_is)
          case r60 =>
           refine' Ev.FunL.cons (F := K24F.f6) (Ev.mkFun "_check" (K24F.top 22) rfl rfl KX G ?a61 ?l61 ?c61 ?k61 (fun _ _ _ _ _ _ us hl => match us, hl with | [_, _, _, _], _ => rfl)) ?r61; (case a61 => k_is); (case l61 => k_is); (case c61 => k_is); (case k61 => k_is)
           case r61 =>
            refine' Ev.FunL.cons (F := K24F.f7) (Ev.mkFun "_power" (K24F.top 23) rfl rfl KX G ?a62 ?l62 ?c62 ?k62 (fun _ _ _ _ _ _ us hl => match us, hl with | [_, _], _ => rfl)) ?r62; (case a62 => k_is); (case l62 => k_is); (case c62 => k_is); (case k62 => k_is)
            case r62 =>
             refine' Ev.FunL.cons (F := K24F.f8) (Ev.mkFun "_all_cells" (K24F.top 24) rfl rfl KX G ?a63 ?l63 ?c63 ?k63 (fun _ _ _ _ _ _ us hl => match us, hl with | [_], _ => rfl)) ?r63; (case a63 => k_is); (case l63 => k_is); (case c63 => k_is); (case k63 => k_is)
             case r63 =>
              refine' Ev.FunL.cons (F := K24F.f9) (Ev.mkFun "count_blocks" (K24F.top 25) rfl rfl KX G ?a64 ?l64 ?c64 ?k64 (fun _ _ _ _ _ _ us hl => match us, hl with | [_, _], _ => rfl)) ?r64; (case a64 => k_is); (case l64 => k_is); (case c64 => k_is); (case k64 => k_is)
              case r64 =>
               refine' Ev.FunL.cons (F := K24F.f10) (Ev.mkFun "block_at" (K24F.top 26) rfl rfl KX G ?a65 ?l65 ?c65 ?k65 (fun _ _ _ _ _ _ us hl => match us, hl with | [_, _, _], _ => rfl)) ?r65; (case a65 => k_is); (case l65 => k_is); (case c65 => k_is); (case k65 => k_is)
               case r65 =>
                refine' Ev.FunL.cons (F := K24F.f11) (Ev.mkFun "number_of" (K24F.top 27) rfl rfl KX G ?a66 ?l66 ?c66 ?k66 (fun _ _ _ _ _ _ us hl => match us, hl with | [_, _], _ => rfl)) ?r66; (case a66 => k_is); (case l66 => k_is); (case c66 => k_is); (case k66 => k_is)
                case r66 =>
                 refine' Ev.FunL.cons (F := K24F.f12) (Ev.mkFun "_law_draws" (K24F.top 29) rfl rfl KX G ?a67 ?l67 ?c67 ?k67 (fun _ _ _ _ _ _ us hl => match us, hl with | [_, _], _ => rfl)) ?r67; (case a67 => k_is); (case l67 => k_is); (case c67 => k_is); (case k67 => k_is)
                 case r67 =>
                  refine' Ev.FunL.cons (F := K24F.f13) (Ev.mkFun "_law_rising" (K24F.top 30) rfl rfl KX G ?a68 ?l68 ?c68 ?k68 (fun _ _ _ _ _ _ us hl => match us, hl with | [], _ => rfl)) ?r68; (case a68 => k_is); (case l68 => k_is); (case c68 => k_is); (case k68 => k_is)
                  case r68 =>
                   refine' Ev.FunL.cons (F := K24F.f14) (Ev.mkFun "_law_falling" (K24F.top 31) rfl rfl KX G ?a69 ?l69 ?c69 ?k69 (fun _ _ _ _ _ _ us hl => match us, hl with | [], _ => rfl)) ?r69; (case a69 => k_is); (case l69 => k_is); (case c69 => k_is); (case k69 => k_is)
                   case r69 =>
                    refine' Ev.FunL.cons (F := K24F.f15) (Ev.mkFun "_law_block" (K24F.top 32) rfl rfl KX G ?a70 ?l70 ?c70 ?k70 (fun _ _ _ _ _ _ us hl => match us, hl with | [_, _, _], _ => rfl)) ?r70; (case a70 => k_is); (case l70 => k_is); (case c70 => k_is); (case k70 => k_is)
                    case r70 =>
                     refine' Ev.FunL.cons (F := K24F.f16) (Ev.mkFun "_law_cells" (K24F.top 33) rfl rfl KX G ?a71 ?l71 ?c71 ?k71 (fun _ _ _ _ _ _ us hl => match us, hl with | [_], _ => rfl)) ?r71; (case a71 => k_is); (case l71 => k_is); (case c71 => k_is); (case k71 => k_is)
                     case r71 =>
                      refine' Ev.FunL.cons (F := K24F.f17) (Ev.mkFun "_law_at" (K24F.top 34) rfl rfl KX G ?a72 ?l72 ?c72 ?k72 (fun _ _ _ _ _ _ us hl => match us, hl with | [_, _, _], _ => rfl)) ?r72; (case a72 => k_is); (case l72 => k_is); (case c72 => k_is); (case k72 => k_is)
                      case r72 =>
                       refine' Ev.FunL.cons (F := K24F.f18) (Ev.mkFun "_law_first" (K24F.top 35) rfl rfl KX G ?a73 ?l73 ?c73 ?k73 (fun _ _ _ _ _ _ us hl => match us, hl with | [_, _, _, _], _ => rfl)) ?r73; (case a73 => k_is); (case l73 => k_is); (case c73 => k_is); (case k73 => k_is)
                       case r73 =>
                        refine' Ev.FunL.cons (F := K24F.f19) (Ev.mkFun "_law_letter" (K24F.top 36) rfl rfl KX G ?a74 ?l74 ?c74 ?k74 (fun _ _ _ _ _ _ us hl => match us, hl with | [_], _ => rfl)) ?r74; (case a74 => k_is); (case l74 => k_is); (case c74 => k_is); (case k74 => k_is)
                        case r74 =>
                         refine' Ev.FunL.cons (F := K24F.f20) (Ev.mkFun "law" (K24F.top 37) rfl rfl KX G ?a75 ?l75 ?c75 ?k75 (fun _ _ _ _ _ _ us hl => match us, hl with | [_], _ => rfl)) ?r75; (case a75 => k_is); (case l75 => k_is); (case c75 => k_is); (case k75 => k_is)
                         case r75 =>
                          exact Ev.FunL.nil

