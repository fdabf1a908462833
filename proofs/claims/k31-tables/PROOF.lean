import PyProof.Rows.All
import Wide.All
import OpenK.AllK
import Wide.FinOn
import HandS.ForMost
import HandS.Wide
import HandS.Flow
import HandS.Style
import HandS.Walk
import HandS.Zip
import HandS.IsInst
import HandS.TupAny
import KE.GoesNew
import HandS.TupMul
import HandS.Gcd
import HandS.Star
import HandS.Rev
import HandS.TryOnly
import KE.GoesMore
import KE.GoesEnum
import PySem.Challenge.RW_webvalues_k31_drawn_forms_through_tables
set_option Elab.async false
set_option linter.all false
set_option maxRecDepth 100000
/-! PyI: plain data, a small language, its evaluation. -/
namespace PyI
open PySem

inductive D where
  | non | bl (b : Bool) | int (i : Int) | str (s : Str) | tup (xs : List D) | lst (xs : List D) | dct (ks vs : List D) | src

/-- a result: plain data; a fresh list or dict that nobody else holds; a look at one that a name holds -/
inductive R where | v (d : D) | o (d : D) | k (d : D)
def R.d : R → D | .v d => d | .o d => d | .k d => d
def R.st : R → Option D | .v d => some d | .o d => some d | .k _ => none
@[simp] theorem R.d_v (d : D) : (R.v d).d = d := rfl
@[simp] theorem R.d_o (d : D) : (R.o d).d = d := rfl
@[simp] theorem R.d_k (d : D) : (R.k d).d = d := rfl
@[simp] theorem R.st_v (d : D) : (R.v d).st = some d := rfl
@[simp] theorem R.st_o (d : D) : (R.o d).st = some d := rfl
@[simp] theorem R.st_k (d : D) : (R.k d).st = none := rfl

inductive BOp where | add | sub | mul | fdiv | mod | pow
inductive COp where | eq | ne | lt | le | gt | ge | inn | nin
inductive Ty where | int | bool | str | tup | lst | dct
inductive B1 where | len | abs | all | any | sum | tuple | list | repr | max | min | sorted | int
inductive B2 where | max | min | gcd

inductive C where
  | var (i : Nat) | non | bl (b : Bool) | int (i : Int) | str (s : Str)
  | nil | cons (a b : C)
  | tup (es : C) | lst (es : C) | dnil
  | bin (op : BOp) (a b : C) | neg (a : C) | nt (a : C) | and_ (a b : C) | or_ (a b : C)
  | cmp (op : COp) (a b : C)
  | isc (no : Bool) (a : C) (c : Option Bool)
  | ife (t a b : C)
  | call (f : Nat) (es : C) | pick (a m : C)
  | b1 (f : B1) (a : C) | b2 (f : B2) (a b : C)
  | isin (a : C) (t : Ty)
  | ix (a b : C) | slc (a lo hi : C) | get (a b c : C) | rev (a : C) | scons (a b : C)
  | comp (own : List Nat) (elt tg it test : C)
  | rng1 (a : C) | rng2 (a b : C) | enm (a : C) | zp (a b : C)

inductive S where
  | asg (fz : List Nat) (tg e : C)
  | par (fz : List Nat) (i j : Nat) (a b : C) | par3 (fz : List Nat) (i j l : Nat) (a b c : C)
  | sto (fz : List Nat) (i : Nat) (ix e : C)
  | app (fz : List Nat) (i : Nat) (e : C) | ext (fz : List Nat) (i : Nat) (e : C)
  | ex (fz : List Nat) (e : C)
  | pop (j : Option Nat) (i : Nat)
  | ret (fz : List Nat) (e : C)
  | ifs (fz : List Nat) (c : C) (a b : S)
  | whl (fz : List Nat) (c : C) (b : S)
  | fr (fz : List Nat) (tg it : C) (b : S)
  | brk | cnt | pas
  | seq (a b : S)

inductive Out where | nx | bk | ct | rt (r : R)

abbrev Rho := List (Option R)

/-! ### data -/
mutual
def D.toP : D → Option PyData
  | .non => some .none
  | .bl b => some (.bool b)
  | .int i => some (.int i)
  | .str s => some (.str s)
  | .tup xs => (D.toPs xs).map .tuple
  | .lst xs => (D.toPs xs).map .list
  | .dct _ _ => none
  | .src => none
def D.toPs : List D → Option (List PyData)
  | [] => some []
  | x :: xs => (D.toP x).bind fun p => (D.toPs xs).map fun ps => p :: ps
end
def truth : D → Option Bool
  | .non => some false
  | .bl b => some b
  | .int i => some (i != 0)
  | .str s => if s.length ≤ sizeLine then some ((s.length : Int) != 0) else none
  | .tup xs => some (!xs.isEmpty)
  | .lst xs => some (!xs.isEmpty)
  | .dct ks _ => some (!ks.isEmpty)
  | .src => none

def isinD : Ty → D → Option Bool
  | _, .src => none
  | .int, .int _ => some true
  | .int, .bl _ => some true
  | .int, _ => some false
  | .bool, .bl _ => some true
  | .bool, _ => some false
  | .str, .str _ => some true
  | .str, _ => some false
  | .tup, .tup _ => some true
  | .tup, _ => some false
  | .lst, .lst _ => some true
  | .lst, _ => some false
  | .dct, .dct _ _ => some true
  | .dct, _ => some false

def binD : BOp → D → D → Option R
  | .add, .int i, .int j => some (.v (.int (i + j)))
  | .add, .str x, .str y => if x.length + y.length ≤ sizeLine then some (.v (.str (x ++ y))) else none
  | .add, .tup xs, .tup ys => if xs.length + ys.length ≤ sizeLine then some (.v (.tup (xs ++ ys))) else none
  | .add, .lst xs, .lst ys => if xs.length + ys.length ≤ sizeLine then some (.o (.lst (xs ++ ys))) else none
  | .sub, .int i, .int j => some (.v (.int (i - j)))
  | .mul, .int i, .int j => if i.natAbs.log2 + j.natAbs.log2 < 1000000 then some (.v (.int (i * j))) else none
  | .mul, .tup xs, .int k => if xs.length ≠ 0 ∧ 2 ≤ k ∧ k ≤ 1000 ∧ xs.length ≤ 1000 then some (.v (.tup (List.replicate k.toNat xs).flatten)) else none
  | .mul, .lst xs, .int k => if -(2 ^ 62) ≤ k ∧ k < 2 ^ 62 ∧ xs.length * k.toNat ≤ sizeLine then some (.o (.lst (List.replicate k.toNat xs).flatten)) else none
  | .fdiv, .int i, .int j => if j ≠ 0 ∧ j.natAbs.log2 < 9000 then some (.v (.int (i.fdiv j))) else none
  | .mod, .int i, .int j => if j ≠ 0 then some (.v (.int (i.fmod j))) else none
  | .pow, .int i, .int j => if 0 ≤ j ∧ j ≤ 1000000 ∧ i.natAbs < 2 ^ 64 then some (.v (.int (i ^ j.toNat))) else none
  | _, _, _ => none

def eqD (a b : D) : Option Bool :=
  match a.toP, b.toP with
  | some p, some q => if SeqAt.shaped p && SeqAt.shaped q then some (PyData.eqv p q) else none
  | _, _ => none

/-- flat data: no list, tuple, dict -/
def flat : D → Bool
  | .non => true
  | .bl _ => true
  | .int _ => true
  | .str _ => true
  | _ => false
def eqF : D → D → Bool
  | .non, .non => true
  | .bl a, .bl b => a == b
  | .bl a, .int j => (if a then 1 else 0) == j
  | .int i, .bl b => i == (if b then 1 else 0)
  | .int i, .int j => i == j
  | .str x, .str y => x == y
  | _, _ => false

def cmpD : COp → D → D → Option Bool
  | .eq, a, b => eqD a b
  | .ne, a, b => (eqD a b).map (!·)
  | .lt, .int i, .int j => some (decide (i < j))
  | .le, .int i, .int j => some (decide (i ≤ j))
  | .gt, .int i, .int j => some (decide (j < i))
  | .ge, .int i, .int j => some (decide (j ≤ i))
  | .inn, a, .lst ys => if flat a && ys.all flat then some (ys.any fun y => eqF y a) else none
  | .inn, a, .tup ys => if flat a && ys.all flat then some (ys.any fun y => eqF y a) else none
  | .nin, a, .lst ys => if flat a && ys.all flat then some (!ys.any fun y => eqF y a) else none
  | .nin, a, .tup ys => if flat a && ys.all flat then some (!ys.any fun y => eqF y a) else none
  | _, _, _ => none

def iscD : Option Bool → D → Option Bool
  | none, .non => some true
  | none, .src => none
  | none, _ => some false
  | some b, .bl c => some (b == c)
  | some _, _ => none

/-- what may be a dict's key -/
def isKey : D → Bool
  | .int _ => true
  | .str _ => true
  | _ => false
def keyEq : D → D → Bool
  | .int i, .int j => i == j
  | .str x, .str y => x == y
  | _, _ => false
def valD : List D → List D → D → Option D
  | a :: ks, w :: ws, k => if keyEq a k then some w else valD ks ws k
  | _, _, _ => none
def repD : List D → List D → D → D → List D
  | a :: ks, w :: ws, k, y => (if keyEq a k then y else w) :: repD ks ws k y
  | _, _, _, _ => []
/-- in its place, or at the end -/
def putD (ks ws : List D) (k y : D) : List D × List D := if ks.any (keyEq · k) then (ks, repD ks ws k y) else (ks ++ [k], ws ++ [y])
def ixD : D → D → Option D
  | .lst xs, .int i => L2.atI xs i
  | .tup xs, .int i => L2.atI xs i
  | .dct ks ws, k => if isKey k then valD ks ws k else none
  | _, _ => none
def getD : D → D → D → Option D
  | .dct ks ws, k, e => if isKey k then some ((valD ks ws k).getD e) else none
  | _, _, _ => none

def cut {α : Type} (xs : List α) (lo hi : Option Int) : List α := (xs.drop (HT.sIx xs.length 0 lo)).take (HT.sIx xs.length xs.length hi - HT.sIx xs.length 0 lo)
def partD : D → Option (Option Int)
  | .non => some none
  | .int i => some (some i)
  | _ => none
def slcD (a : D) (lo hi : Option Int) : Option R :=
  match a with
  | .lst xs => some (.o (.lst (cut xs lo hi)))
  | .tup xs => some (.v (.tup (cut xs lo hi)))
  | _ => none

def intsD : List D → Option (List Int)
  | [] => some []
  | .int i :: r => (intsD r).map (i :: ·)
  | _ => none
def boolsD : List D → Option (List Bool)
  | [] => some []
  | .bl i :: r => (boolsD r).map (i :: ·)
  | _ => none
def isort (l : List Int) : List Int := l.mergeSort fun a b => decide (a ≤ b)
def items : D → Option (List D)
  | .lst xs => some xs
  | .tup xs => some xs
  | _ => none
def maxI : List Int → Int
  | [] => 0
  | x :: xs => xs.foldl max x
def minI : List Int → Int
  | [] => 0
  | x :: xs => xs.foldl min x
def b1D : B1 → D → Option R
  | .len, .lst xs => some (.v (.int xs.length))
  | .len, .tup xs => some (.v (.int xs.length))
  | .len, .dct ks _ => some (.v (.int ks.length))
  | .int, .int i => some (.v (.int i))
  | .int, .bl b => some (.v (.int (if b then 1 else 0)))
  | .len, .str s => if s.length ≤ sizeLine then some (.v (.int s.length)) else none
  | .abs, .int i => some (.v (.int (if i < 0 then -i else i)))
  | .all, .lst xs => (boolsD xs).map fun bs => .v (.bl (bs.all id))
  | .any, .lst xs => (boolsD xs).map fun bs => .v (.bl (bs.any id))
  | .sum, .lst xs => (intsD xs).map fun is => .v (.int is.sum)
  | .tuple, .lst xs => some (.v (.tup xs))
  | .tuple, .tup xs => some (.v (.tup xs))
  | .list, .lst xs => some (.o (.lst xs))
  | .list, .tup xs => some (.o (.lst xs))
  | .max, .lst xs => (intsD xs).bind fun is => if is = [] then none else some (.v (.int (maxI is)))
  | .min, .lst xs => (intsD xs).bind fun is => if is = [] then none else some (.v (.int (minI is)))
  | .sorted, .lst xs => (intsD xs).bind fun is => if is.length < 64 then some (.o (.lst ((isort is).map .int))) else none
  | .sorted, .dct ks _ => (intsD ks).bind fun is => if is.length < 64 then some (.o (.lst ((isort is).map .int))) else none
  | .repr, d => d.toP.bind fun p => if p.showable && decide (p.shown.length ≤ sizeLine) && decide (p.depth ≤ 60) then some (.v (.str p.shown)) else none
  | _, _ => none
def b2D : B2 → D → D → Option R
  | .max, .int i, .int j => some (.v (.int (if j > i then j else i)))
  | .min, .int i, .int j => some (.v (.int (if j < i then j else i)))
  | .gcd, .int i, .int j => some (.v (.int ((Nat.gcd i.natAbs j.natAbs : Nat) : Int)))
  | _, _, _ => none

def pairs : List D → List D → List D
  | x :: xs, y :: ys => .tup [x, y] :: pairs xs ys
  | _, _ => []
def enumD (i : Nat) : List D → List D
  | [] => []
  | x :: xs => .tup [.int i, x] :: enumD (i + 1) xs
def rangeD (lo : Int) : Nat → List D
  | 0 => []
  | n + 1 => .int lo :: rangeD (lo + 1) n

/-! ### evaluation -/
variable {τ : Type}
def bd {β : Type} (x : Option (R × τ)) (f : R → τ → Option β) : Option β := match x with | some (r, t) => f r t | none => none
@[simp] theorem bd_some {β : Type} (r : R) (t : τ) (f : R → τ → Option β) : bd (some (r, t)) f = f r t := rfl
@[simp] theorem bd_none {β : Type} (f : R → τ → Option β) : bd none f = none := rfl

def wipe (ρ : Rho) : List Nat → Rho
  | [] => ρ
  | v :: vs => (wipe ρ vs).set v none
def bindT : C → R → Rho → Option Rho
  | .var i, .v d, ρ => some (ρ.set i (some (.v d)))
  | .var i, .o d, ρ => some (ρ.set i (some (.o d)))
  | .tup es, r, ρ => match r.st with
    | some (.tup ds) => bindT es (.v (.lst ds)) ρ
    | some (.lst ds) => bindT es (.v (.lst ds)) ρ
    | _ => none
  | .nil, .v (.lst []), ρ => some ρ
  | .cons a b, .v (.lst (d :: ds)), ρ => (bindT a (.v d) ρ).bind (bindT b (.v (.lst ds)))
  | _, _, _ => none

def compL (f : D → τ → Option (Option D × τ)) : List D → τ → Option (List D × τ)
  | [], t => some ([], t)
  | x :: xs, t => match f x t with
    | some (some y, t1) => (compL f xs t1).map fun p => (y :: p.1, p.2)
    | some (none, t1) => compL f xs t1
    | none => none
def forL (f : D → Rho → τ → Option (Out × Rho × τ)) : List D → Rho → τ → Option (Out × Rho × τ)
  | [], ρ, t => some (.nx, ρ, t)
  | x :: xs, ρ, t => match f x ρ t with
    | some (.nx, ρ1, t1) => forL f xs ρ1 t1
    | some (.ct, ρ1, t1) => forL f xs ρ1 t1
    | some (.bk, ρ1, t1) => some (.nx, ρ1, t1)
    | some (.rt r, ρ1, t1) => some (.rt r, ρ1, t1)
    | none => none
def whlL (c : Rho → τ → Option (Bool × τ)) (f : Rho → τ → Option (Out × Rho × τ)) : Nat → Rho → τ → Option (Out × Rho × τ)
  | 0, _, _ => none
  | n + 1, ρ, t => match c ρ t with
    | some (true, t1) => match f ρ t1 with
      | some (.nx, ρ1, t2) => whlL c f n ρ1 t2
      | some (.ct, ρ1, t2) => whlL c f n ρ1 t2
      | some (.bk, ρ1, t2) => some (.nx, ρ1, t2)
      | some (.rt r, ρ1, t2) => some (.rt r, ρ1, t2)
      | none => none
    | some (false, t1) => some (.nx, ρ, t1)
    | none => none

/-- the drawing of numbers: from what is left and a bound -/
abbrev Pk (τ : Type) := τ → Int → Int × τ
abbrev Fs (τ : Type) := Nat → List D → τ → Option (R × τ)

def ev (O : Pk τ) (F : Fs τ) : C → Rho → τ → Option (R × τ)
  | .var i, ρ, t => match ρ[i]? with
    | some (some (.v d)) => some (.v d, t)
    | some (some (.o d)) => some (.k d, t)
    | _ => none
  | .non, _, t => some (.v .non, t)
  | .bl b, _, t => some (.v (.bl b), t)
  | .int i, _, t => some (.v (.int i), t)
  | .str s, _, t => some (.v (.str s), t)
  | .nil, _, t => some (.v (.lst []), t)
  | .cons a b, ρ, t => bd (ev O F a ρ t) fun ra t1 => bd (ev O F b ρ t1) fun rb t2 => match ra.st, rb.d with
    | some x, .lst xs => some (.v (.lst (x :: xs)), t2)
    | _, _ => none
  | .tup es, ρ, t => bd (ev O F es ρ t) fun r t1 => match r.d with
    | .lst xs => if xs.length ≤ sizeLine then some (.v (.tup xs), t1) else none
    | _ => none
  | .lst es, ρ, t => bd (ev O F es ρ t) fun r t1 => match r.d with
    | .lst xs => if xs.length ≤ sizeLine then some (.o (.lst xs), t1) else none
    | _ => none
  | .dnil, _, t => some (.o (.dct [] []), t)
  | .bin op a b, ρ, t => bd (ev O F a ρ t) fun ra t1 => bd (ev O F b ρ t1) fun rb t2 => (binD op ra.d rb.d).map fun r => (r, t2)
  | .neg a, ρ, t => bd (ev O F a ρ t) fun ra t1 => match ra.d with
    | .int i => some (.v (.int (-i)), t1)
    | _ => none
  | .nt a, ρ, t => bd (ev O F a ρ t) fun ra t1 => (truth ra.d).map fun b => (.v (.bl (!b)), t1)
  | .and_ a b, ρ, t => bd (ev O F a ρ t) fun ra t1 => match truth ra.d with
    | some true => ev O F b ρ t1
    | some false => ra.st.map fun d => (.v d, t1)
    | none => none
  | .or_ a b, ρ, t => bd (ev O F a ρ t) fun ra t1 => match truth ra.d with
    | some true => ra.st.map fun d => (.v d, t1)
    | some false => ev O F b ρ t1
    | none => none
  | .cmp op a b, ρ, t => bd (ev O F a ρ t) fun ra t1 => bd (ev O F b ρ t1) fun rb t2 => (cmpD op ra.d rb.d).map fun c => (.v (.bl c), t2)
  | .isc no a c, ρ, t => bd (ev O F a ρ t) fun ra t1 => (iscD c ra.d).map fun b => (.v (.bl (b != no)), t1)
  | .ife c a b, ρ, t => bd (ev O F c ρ t) fun rc t1 => match truth rc.d with
    | some true => ev O F a ρ t1
    | some false => ev O F b ρ t1
    | none => none
  | .call f es, ρ, t => bd (ev O F es ρ t) fun r t1 => match r.d with
    | .lst ds => F f ds t1
    | _ => none
  | .pick a m, ρ, t => bd (ev O F a ρ t) fun ra t1 => bd (ev O F m ρ t1) fun rm t2 => match ra.d, rm.d with
    | .src, .int i => if i < 1073741824 then some (.v (.int (O t2 i).1), (O t2 i).2) else none
    | _, _ => none
  | .b1 f a, ρ, t => bd (ev O F a ρ t) fun ra t1 => (b1D f ra.d).map fun r => (r, t1)
  | .b2 f a b, ρ, t => bd (ev O F a ρ t) fun ra t1 => bd (ev O F b ρ t1) fun rb t2 => (b2D f ra.d rb.d).map fun r => (r, t2)
  | .isin a ty, ρ, t => bd (ev O F a ρ t) fun ra t1 => (isinD ty ra.d).map fun b => (.v (.bl b), t1)
  | .ix a b, ρ, t => bd (ev O F a ρ t) fun ra t1 => bd (ev O F b ρ t1) fun rb t2 => (ixD ra.d rb.d).map fun d => (.v d, t2)
  | .get a b c, ρ, t => bd (ev O F a ρ t) fun ra t1 => bd (ev O F b ρ t1) fun rb t2 => bd (ev O F c ρ t2) fun rc t3 => match rc.st with
    | some e => (getD ra.d rb.d e).map fun d => (.v d, t3)
    | none => none
  | .rev a, ρ, t => bd (ev O F a ρ t) fun ra t1 => match ra.d with
    | .lst xs => some (.o (.lst xs.reverse), t1)
    | _ => none
  | .scons a b, ρ, t => bd (ev O F a ρ t) fun ra t1 => bd (ev O F b ρ t1) fun rb t2 => match items ra.d, rb.d with
    | some xs, .lst ys => some (.v (.lst (xs ++ ys)), t2)
    | _, _ => none
  | .slc a lo hi, ρ, t => bd (ev O F a ρ t) fun ra t1 => bd (ev O F lo ρ t1) fun rl t2 => bd (ev O F hi ρ t2) fun rh t3 => match partD rl.d, partD rh.d with
    | some l, some h => (slcD ra.d l h).map fun r => (r, t3)
    | _, _ => none
  | .comp own elt tg it test, ρ, t => bd (ev O F it ρ t) fun ri t1 => match ri.st.bind items with
    | some xs => if xs.length ≤ sizeLine then (compL (fun x t => match bindT tg (.v x) (wipe ρ own) with
        | some ρ1 => bd (ev O F test ρ1 t) fun rt t1 => match truth rt.d with
          | some true => bd (ev O F elt ρ1 t1) fun r t2 => r.st.map fun y => (some y, t2)
          | some false => some (none, t1)
          | none => none
        | none => none) xs t1).map fun p => (.o (.lst p.1), p.2) else none
    | none => none
  | .rng1 a, ρ, t => bd (ev O F a ρ t) fun ra t1 => match ra.d with
    | .int j => if -(2 ^ 62) ≤ j ∧ j < 2 ^ 62 then some (.v (.lst (rangeD 0 j.toNat)), t1) else none
    | _ => none
  | .rng2 a b, ρ, t => bd (ev O F a ρ t) fun ra t1 => bd (ev O F b ρ t1) fun rb t2 => match ra.d, rb.d with
    | .int i, .int j => if (-(2 ^ 62) ≤ i ∧ i < 2 ^ 62) ∧ -(2 ^ 62) ≤ j ∧ j < 2 ^ 62 then some (.v (.lst (rangeD i (j - i).toNat)), t2) else none
    | _, _ => none
  | .enm a, ρ, t => bd (ev O F a ρ t) fun ra t1 => (ra.st.bind items).map fun xs => (.v (.lst (enumD 0 xs)), t1)
  | .zp a b, ρ, t => bd (ev O F a ρ t) fun ra t1 => bd (ev O F b ρ t1) fun rb t2 => match ra.st, rb.st with
    | some (.lst xs), some (.lst ys) => some (.v (.lst (pairs xs ys)), t2)
    | some (.tup xs), some (.tup ys) => some (.v (.lst (pairs xs ys)), t2)
    | _, _ => none

def frz (ρ : Rho) : List Nat → Rho
  | [] => ρ
  | i :: is => match (frz ρ is)[i]? with
    | some (some (.o d)) => (frz ρ is).set i (some (.v d))
    | _ => frz ρ is

def isVar : C → Bool | .var _ => true | _ => false
def setAt : D → D → D → Option D
  | .lst xs, .int i, y => (L2.ixN xs.length i).map fun j => .lst (xs.set j y)
  | .dct ks ws, k, y => if isKey k && decide (ks.length < sizeLine) then some (.dct (putD ks ws k y).1 (putD ks ws k y).2) else none
  | _, _, _ => none

def exec (O : Pk τ) (F : Fs τ) (W : Nat) : S → Rho → τ → Option (Out × Rho × τ)
  | .asg fz tg e, ρ, t => bd (ev O F e (frz ρ fz) t) fun r t1 => (bindT tg r (frz ρ fz)).map fun ρ1 => (.nx, ρ1, t1)
  | .par fz i j a b, ρ, t => bd (ev O F a (frz ρ fz) t) fun ra t1 => bd (ev O F b (frz ρ fz) t1) fun rb t2 =>
      (bindT (.var i) ra (frz ρ fz)).bind fun ρ1 => (bindT (.var j) rb ρ1).map fun ρ2 => (.nx, ρ2, t2)
  | .par3 fz i j l a b c, ρ, t => bd (ev O F a (frz ρ fz) t) fun ra t1 => bd (ev O F b (frz ρ fz) t1) fun rb t2 => bd (ev O F c (frz ρ fz) t2) fun rc t3 =>
      match ra.st, rb.st, rc.st with
      | some da, some db, some dc => some (.nx, (((frz ρ fz).set i (some (.v da))).set j (some (.v db))).set l (some (.v dc)), t3)
      | _, _, _ => none
  | .sto fz i ix e, ρ, t => bd (ev O F e (frz ρ fz) t) fun r t1 => bd (ev O F ix (frz ρ fz) t1) fun ri t2 => match r.st, (frz ρ fz)[i]? with
    | some y, some (some (.o d)) => (setAt d ri.d y).map fun d' => (.nx, (frz ρ fz).set i (some (.o d')), t2)
    | _, _ => none
  | .app fz i e, ρ, t => bd (ev O F e (frz ρ fz) t) fun r t1 => match r.st, (frz ρ fz)[i]? with
    | some y, some (some (.o (.lst xs))) => if xs.length < sizeLine then some (.nx, (frz ρ fz).set i (some (.o (.lst (xs ++ [y])))), t1) else none
    | _, _ => none
  | .ext fz i e, ρ, t => bd (ev O F e (frz ρ fz) t) fun r t1 => match r.st, (frz ρ fz)[i]? with
    | some (.lst ys), some (some (.o (.lst xs))) => if xs.length + ys.length ≤ sizeLine then some (.nx, (frz ρ fz).set i (some (.o (.lst (xs ++ ys)))), t1) else none
    | _, _ => none
  | .ex fz e, ρ, t => bd (ev O F e (frz ρ fz) t) fun _ t1 => some (.nx, frz ρ fz, t1)
  | .pop none i, ρ, t => match ρ[i]? with
    | some (some (.o (.lst (x :: xs)))) => some (.nx, ρ.set i (some (.o (.lst (x :: xs).dropLast))), t)
    | _ => none
  | .pop (some j) i, ρ, t => match ρ[i]? with
    | some (some (.o (.lst (x :: xs)))) => if i = j then none else some (.nx, (ρ.set i (some (.o (.lst (x :: xs).dropLast)))).set j (some (.v ((x :: xs).getLast (by simp)))), t)
    | _ => none
  | .ret fz e, ρ, t => bd (ev O F e (frz ρ fz) t) fun r t1 => match r with
    | .v d => some (.rt (.v d), frz ρ fz, t1)
    | .o d => some (.rt (.o d), frz ρ fz, t1)
    | .k d => if isVar e then some (.rt (.o d), frz ρ fz, t1) else none
  | .ifs fz c a b, ρ, t => bd (ev O F c (frz ρ fz) t) fun r t1 => match truth r.d with
    | some true => exec O F W a (frz ρ fz) t1
    | some false => exec O F W b (frz ρ fz) t1
    | none => none
  | .whl fz c b, ρ, t => whlL (fun ρ t => bd (ev O F c ρ t) fun r t1 => (truth r.d).map fun b => (b, t1)) (exec O F W b) W (frz ρ fz) t
  | .fr fz tg it b, ρ, t => bd (ev O F it (frz ρ fz) t) fun r t1 => match r.st.bind items with
    | some xs => forL (fun x ρ t => match bindT tg (.v x) ρ with
        | some ρ1 => exec O F W b ρ1 t
        | none => none) xs (frz ρ fz) t1
    | none => none
  | .brk, ρ, t => some (.bk, ρ, t)
  | .cnt, ρ, t => some (.ct, ρ, t)
  | .pas, ρ, t => some (.nx, ρ, t)
  | .seq a b, ρ, t => match exec O F W a ρ t with
    | some (.nx, ρ1, t1) => exec O F W b ρ1 t1
    | some (o, ρ1, t1) => some (o, ρ1, t1)
    | none => none

structure Fn where
  np : Nat
  nN : Nat
  body : S
def begin_ (f : Fn) (ds : List D) : Rho := ds.map (fun d => some (.v d)) ++ List.replicate (f.nN - f.np) none
/-- the defs by number, to a depth of calls -/
def run (O : Pk τ) (W : Nat) (prog : Nat → Option Fn) : Nat → Fs τ
  | 0, _, _, _ => none
  | n + 1, f, ds, t => match prog f with
    | some fn => if ds.length = fn.np then match exec O (run O W prog n) W fn.body (begin_ fn ds) t with
        | some (.nx, _, t1) => some (.v .non, t1)
        | some (.rt r, _, t1) => some (r, t1)
        | _ => none
      else none
    | none => none
end PyI

set_option Elab.async false
set_option linter.all false
set_option maxRecDepth 100000
set_option maxHeartbeats 4000000
/-! PyI: plain data over the abstract heap; the operations. -/
namespace PyI
open PySem PySem.Spec PyProof.Rows L2

/-- where the drawing's two objects stand, and what stands there -/
structure Sr (τ : Type) where
  g1 : Addr
  g2 : Addr
  A : τ → HO
  B : τ → HO

mutual
inductive Rep (K : PySem.W.Frag) (g : Addr) (I : Hp) : V → D → Prop
  | non : Rep K g I .non .non
  | bl (b : Bool) : Rep K g I (.bl b) (.bl b)
  | int (i : Int) : Rep K g I (.int i) (.int i)
  | str (x : Str) : Rep K g I (.str x) (.str x)
  | tup {a : Addr} {vs : List V} {ds : List D} : SqT K I a vs → Reps K g I vs ds → Rep K g I (.ref a) (.tup ds)
  | lst {a : Addr} {vs : List V} {ds : List D} : I a = some (.lst vs) → Reps K g I vs ds → Rep K g I (.ref a) (.lst ds)
  | dct {a : Addr} {kvs : List (Key × V)} {ks ws : List D} : I a = some (.dK kvs) → Reps K g I (kvs.map fun p => kV p.1) ks → Reps K g I (kvs.map fun p => p.2) ws → Rep K g I (.ref a) (.dct ks ws)
  | src : Rep K g I (.ref g) .src
inductive Reps (K : PySem.W.Frag) (g : Addr) (I : Hp) : List V → List D → Prop
  | nil : Reps K g I [] []
  | cons {v : V} {vs : List V} {d : D} {ds : List D} : Rep K g I v d → Reps K g I vs ds → Reps K g I (v :: vs) (d :: ds)
end

abbrev Le (H H' : Hp) : Prop := ∀ a o, H a = some o → H' a = some o
theorem Le.refl (H : Hp) : Le H H := fun _ _ e => e
theorem Le.trans {H1 H2 H3 : Hp} (h : Le H1 H2) (k : Le H2 H3) : Le H1 H3 := fun a o e => k a o (h a o e)
theorem Le.upd {H : Hp} {p : Addr} {o : HO} (h : H p = none) : Le H (upd H p o) := fun a x e => by
  have ne : a ≠ p := fun z => by rw [z, h] at e; cases e
  rw [upd_ne ne]; exact e
theorem sqT_le {K : PySem.W.Frag} {I J : Hp} (l : Le I J) {a : Addr} {vs : List V} (h : SqT K I a vs) : SqT K J a vs := by
  rcases h with (h | ⟨o, h⟩) | h
  · exact .inl (.inl (l _ _ h))
  · exact .inl (.inr ⟨o, l _ _ h⟩)
  · exact .inr h
section
variable {K : PySem.W.Frag} {g : Addr} {I J : Hp}
mutual
theorem Rep.le (l : Le I J) : ∀ {v : V} {d : D}, Rep K g I v d → Rep K g J v d
  | _, _, .non => .non
  | _, _, .bl b => .bl b
  | _, _, .int i => .int i
  | _, _, .str x => .str x
  | _, _, .tup h r => .tup (sqT_le l h) (Reps.le l r)
  | _, _, .lst h r => .lst (l _ _ h) (Reps.le l r)
  | _, _, .dct h r q => .dct (l _ _ h) (Reps.le l r) (Reps.le l q)
  | _, _, .src => .src
theorem Reps.le (l : Le I J) : ∀ {vs : List V} {ds : List D}, Reps K g I vs ds → Reps K g J vs ds
  | _, _, .nil => .nil
  | _, _, .cons h r => .cons (Rep.le l h) (Reps.le l r)
end
theorem Reps.length : ∀ {vs : List V} {ds : List D}, Reps K g I vs ds → vs.length = ds.length
  | _, _, .nil => rfl
  | _, _, .cons _ r => congrArg (· + 1) r.length
theorem Reps.get : ∀ {vs : List V} {ds : List D} {i : Nat} {d : D}, Reps K g I vs ds → ds[i]? = some d → ∃ v, vs[i]? = some v ∧ Rep K g I v d
  | _, _, _, _, .nil, e => by simp at e
  | _, _, 0, _, .cons h _, e => by simp at e; subst e; exact ⟨_, rfl, h⟩
  | _, _, i + 1, _, .cons _ r, e => by
    obtain ⟨v, h1, h2⟩ := r.get (i := i) (by simpa using e)
    exact ⟨v, by simpa using h1, h2⟩
theorem Reps.append : ∀ {vs ws : List V} {ds es : List D}, Reps K g I vs ds → Reps K g I ws es → Reps K g I (vs ++ ws) (ds ++ es)
  | _, _, _, _, .nil, q => q
  | _, _, _, _, .cons h r, q => .cons h (r.append q)
theorem Reps.take : ∀ {vs : List V} {ds : List D} (n : Nat), Reps K g I vs ds → Reps K g I (vs.take n) (ds.take n)
  | _, _, 0, _ => .nil
  | _, _, _ + 1, .nil => .nil
  | _, _, n + 1, .cons h r => .cons h (r.take n)
theorem Reps.drop : ∀ {vs : List V} {ds : List D} (n : Nat), Reps K g I vs ds → Reps K g I (vs.drop n) (ds.drop n)
  | _, _, 0, r => r
  | _, _, _ + 1, .nil => .nil
  | _, _, n + 1, .cons _ r => r.drop n
theorem Reps.set : ∀ {vs : List V} {ds : List D} (n : Nat) {v : V} {d : D}, Reps K g I vs ds → Rep K g I v d → Reps K g I (vs.set n v) (ds.set n d)
  | _, _, _, _, _, .nil, _ => .nil
  | _, _, 0, _, _, .cons _ r, q => .cons q r
  | _, _, n + 1, _, _, .cons h r, q => .cons h (r.set n q)
theorem Reps.rep {vs : List V} {ds : List D} (r : Reps K g I vs ds) : ∀ n : Nat, Reps K g I (List.replicate n vs).flatten (List.replicate n ds).flatten
  | 0 => .nil
  | n + 1 => by
    rw [List.replicate_succ, List.replicate_succ, List.flatten_cons, List.flatten_cons]
    exact r.append (r.rep n)
theorem Reps.dropLast : ∀ {vs : List V} {ds : List D}, Reps K g I vs ds → Reps K g I vs.dropLast ds.dropLast
  | _, _, .nil => .nil
  | _, _, .cons h .nil => .nil
  | _, _, .cons h (.cons h' r) => .cons h (Reps.dropLast (.cons h' r))
theorem reps_ints : ∀ {ds : List D} {vs : List V} {is : List Int}, intsD ds = some is → Reps K g I vs ds → vs = is.map V.int
  | [], _, _, e, .nil => by cases e; rfl
  | d :: ds, _, is, e, .cons h r => by
    cases d with
    | int i =>
      simp only [intsD, Option.map_eq_some_iff] at e
      obtain ⟨js, e1, rfl⟩ := e
      cases h
      rw [reps_ints e1 r]; rfl
    | _ => simp [intsD] at e
theorem reps_bools : ∀ {ds : List D} {vs : List V} {is : List Bool}, boolsD ds = some is → Reps K g I vs ds → vs = is.map V.bl
  | [], _, _, e, .nil => by cases e; rfl
  | d :: ds, _, is, e, .cons h r => by
    cases d with
    | bl i =>
      simp only [boolsD, Option.map_eq_some_iff] at e
      obtain ⟨js, e1, rfl⟩ := e
      cases h
      rw [reps_bools e1 r]; rfl
    | _ => simp [boolsD] at e
theorem reps_of_ints : ∀ (is : List Int), Reps K g I (is.map V.int) (is.map D.int)
  | [] => .nil
  | i :: is => .cons (.int i) (reps_of_ints is)
end

/-- an object that one holds -/
def Own (K : PySem.W.Frag) (g : Addr) (H I : Hp) (l : Addr) : D → Prop
  | .lst ds => ∃ vs, H l = some (.lst vs) ∧ Reps K g I vs ds
  | .dct ks ws => ∃ kvs, H l = some (.dK kvs) ∧ Reps K g I (kvs.map fun p => kV p.1) ks ∧ Reps K g I (kvs.map fun p => p.2) ws
  | _ => False
theorem Own.le {K : PySem.W.Frag} {g : Addr} {H H' I I' : Hp} {l : Addr} (e : ∀ o, H l = some o → H' l = some o) (k : Le I I') : ∀ {d : D}, Own K g H I l d → Own K g H' I' l d
  | .lst _, ⟨vs, h, r⟩ => ⟨vs, e _ h, r.le k⟩
  | .dct _ _, ⟨vs, h, r, q⟩ => ⟨vs, e _ h, r.le k, q.le k⟩
  | .non, h => h
  | .bl _, h => h
  | .int _, h => h
  | .str _, h => h
  | .tup _, h => h
  | .src, h => h
theorem Own.rep {K : PySem.W.Frag} {g : Addr} {H I : Hp} {l : Addr} (k : Le I H) : ∀ {d : D}, Own K g H I l d → Rep K g H (.ref l) d
  | .lst _, ⟨vs, h, r⟩ => .lst h (r.le k)
  | .dct _ _, ⟨vs, h, r, q⟩ => .dct h (r.le k) (q.le k)
  | .non, h => h.elim
  | .bl _, h => h.elim
  | .int _, h => h.elim
  | .str _, h => h.elim
  | .tup _, h => h.elim
  | .src, h => h.elim
theorem Own.some {K : PySem.W.Frag} {g : Addr} {H I : Hp} {l : Addr} : ∀ {d : D}, Own K g H I l d → ∃ o, H l = some o
  | .lst _, ⟨vs, h, _⟩ => ⟨_, h⟩
  | .dct _ _, ⟨vs, h, _⟩ => ⟨_, h⟩
  | .non, h => h.elim
  | .bl _, h => h.elim
  | .int _, h => h.elim
  | .str _, h => h.elim
  | .tup _, h => h.elim
  | .src, h => h.elim

variable {τ : Type}
/-- the abstract heap H; its part I that nobody changes; the drawing's state -/
structure HS (sr : Sr τ) (H I : Hp) (t : τ) : Prop where
  sub : Le I H
  i1 : I sr.g1 = none
  i2 : I sr.g2 = none
  a1 : H sr.g1 = some (sr.A t)
  a2 : H sr.g2 = some (sr.B t)
structure Ext (sr : Sr τ) (H I H' I' : Hp) : Prop where
  im : Le I I'
  keep : ∀ a o, H a = some o → a ≠ sr.g1 → a ≠ sr.g2 → H' a = some o
  new : ∀ a, I' a ≠ none → I a ≠ none ∨ H a = none
theorem Ext.refl (sr : Sr τ) (H I : Hp) : Ext sr H I H I := ⟨.refl _, fun _ _ e _ _ => e, fun _ h => .inl h⟩
theorem none_of {H : Hp} {a : Addr} (h : ¬ ∃ o, H a = some o) : H a = none := by
  cases e : H a with
  | none => rfl
  | some o => exact (h ⟨o, e⟩).elim
theorem Ext.fresh {sr : Sr τ} {H I H' I' : Hp} {t : τ} (x : Ext sr H I H' I') (hs : HS sr H I t) {a : Addr} (h : H' a = none) (n1 : a ≠ sr.g1) (n2 : a ≠ sr.g2) : H a = none := none_of fun ⟨o, e⟩ => by
  rw [x.keep a o e n1 n2] at h; cases h
theorem Ext.trans {sr : Sr τ} {H1 I1 H2 I2 H3 I3 : Hp} {t2 t3 : τ} (x : Ext sr H1 I1 H2 I2) (hs2 : HS sr H2 I2 t2) (hs3 : HS sr H3 I3 t3) (y : Ext sr H2 I2 H3 I3) : Ext sr H1 I1 H3 I3 :=
  ⟨x.im.trans y.im, fun a o e n1 n2 => y.keep a o (x.keep a o e n1 n2) n1 n2, fun a h => by
    rcases y.new a h with k | k
    · exact x.new a k
    · refine .inr (none_of fun ⟨o, e⟩ => ?_)
      by_cases n1 : a = sr.g1
      · rw [n1, hs3.i1] at h; exact h rfl
      by_cases n2 : a = sr.g2
      · rw [n2, hs3.i2] at h; exact h rfl
      rw [x.keep a o e n1 n2] at k; cases k⟩
theorem HS.ne1 {sr : Sr τ} {H I : Hp} {t : τ} (h : HS sr H I t) {p : Addr} (e : H p = none) : p ≠ sr.g1 := fun z => by rw [z, h.a1] at e; cases e
theorem HS.ne2 {sr : Sr τ} {H I : Hp} {t : τ} (h : HS sr H I t) {p : Addr} (e : H p = none) : p ≠ sr.g2 := fun z => by rw [z, h.a2] at e; cases e
theorem HS.nI {sr : Sr τ} {H I : Hp} {t : τ} (h : HS sr H I t) {p : Addr} (e : H p = none) : I p = none := none_of fun ⟨o, q⟩ => by
  rw [h.sub p o q] at e; cases e
/-- a new object that nobody changes -/
theorem HS.newI {sr : Sr τ} {H I : Hp} {t : τ} (h : HS sr H I t) {p : Addr} {o : HO} (e : H p = none) : HS sr (upd H p o) (upd I p o) t :=
  ⟨fun a x q => by
      by_cases z : a = p
      · subst z; rw [upd_same] at q ⊢; exact q
      · rw [upd_ne z] at q ⊢; exact h.sub a x q,
    by rw [upd_ne (h.ne1 e).symm]; exact h.i1, by rw [upd_ne (h.ne2 e).symm]; exact h.i2, by rw [upd_ne (h.ne1 e).symm]; exact h.a1, by rw [upd_ne (h.ne2 e).symm]; exact h.a2⟩
theorem HS.newO {sr : Sr τ} {H I : Hp} {t : τ} (h : HS sr H I t) {p : Addr} {o : HO} (e : H p = none) : HS sr (upd H p o) I t :=
  ⟨h.sub.trans (Le.upd e), h.i1, h.i2, by rw [upd_ne (h.ne1 e).symm]; exact h.a1, by rw [upd_ne (h.ne2 e).symm]; exact h.a2⟩
theorem Ext.newI {sr : Sr τ} {H I : Hp} {t : τ} (h : HS sr H I t) {p : Addr} {o : HO} (e : H p = none) : Ext sr H I (upd H p o) (upd I p o) :=
  ⟨Le.upd (h.nI e), fun a x q _ _ => Le.upd e a x q, fun a q => by
    by_cases z : a = p
    · exact .inr (by rw [z]; exact e)
    · rw [upd_ne z] at q; exact .inl q⟩
theorem Ext.newO {sr : Sr τ} {H I : Hp} {p : Addr} {o : HO} (e : H p = none) : Ext sr H I (upd H p o) I :=
  ⟨.refl _, fun a x q _ _ => Le.upd e a x q, fun a q => .inl q⟩
/-- a held object joins the part that nobody changes -/
theorem HS.join {sr : Sr τ} {H I : Hp} {t : τ} (h : HS sr H I t) {p : Addr} {o : HO} (e : H p = some o) (n1 : p ≠ sr.g1) (n2 : p ≠ sr.g2) : HS sr H (upd I p o) t :=
  ⟨fun a x q => by
      by_cases z : a = p
      · subst z; rw [upd_same] at q; cases q; exact e
      · rw [upd_ne z] at q; exact h.sub a x q,
    by rw [upd_ne n1.symm]; exact h.i1, by rw [upd_ne n2.symm]; exact h.i2, h.a1, h.a2⟩

/-- a result as it lies: ahead of the reckoning H; behind it H', I' -/
def RR (sr : Sr τ) (K : PySem.W.Frag) (H H' I' : Hp) (v : V) : R → Prop
  | .v d => Rep K sr.g1 I' v d
  | .o d => ∃ l, v = .ref l ∧ H l = none ∧ l ≠ sr.g1 ∧ l ≠ sr.g2 ∧ I' l = none ∧ Own K sr.g1 H' I' l d
  | .k d => ∃ l, v = .ref l ∧ l ≠ sr.g1 ∧ l ≠ sr.g2 ∧ Own K sr.g1 H' I' l d
/-- .. what of it lasts -/
def WR (sr : Sr τ) (K : PySem.W.Frag) (H I : Hp) (v : V) : R → Prop
  | .v d => Rep K sr.g1 I v d
  | .o d => ∃ l, v = .ref l ∧ l ≠ sr.g1 ∧ l ≠ sr.g2 ∧ Own K sr.g1 H I l d
  | .k d => ∃ l, v = .ref l ∧ l ≠ sr.g1 ∧ l ≠ sr.g2 ∧ Own K sr.g1 H I l d
section
variable {sr : Sr τ} {K : PySem.W.Frag} {H H' I I' : Hp} {v : V} {r : R} {t t' : τ}
theorem RR.w (h : RR sr K H H' I' v r) : WR sr K H' I' v r := by
  cases r with
  | v d => exact h
  | o d => obtain ⟨l, e, _, n1, n2, _, o⟩ := h; exact ⟨l, e, n1, n2, o⟩
  | k d => exact h
theorem WR.ext (h : WR sr K H I v r) (x : Ext sr H I H' I') : WR sr K H' I' v r := by
  cases r with
  | v d => exact Rep.le x.im h
  | o d => obtain ⟨l, e, n1, n2, o⟩ := h; exact ⟨l, e, n1, n2, o.le (fun _ q => x.keep _ _ q n1 n2) x.im⟩
  | k d => obtain ⟨l, e, n1, n2, o⟩ := h; exact ⟨l, e, n1, n2, o.le (fun _ q => x.keep _ _ q n1 n2) x.im⟩
theorem WR.rep (h : WR sr K H I v r) (k : Le I H) : Rep K sr.g1 H v r.d := by
  cases r with
  | v d => exact Rep.le k h
  | o d => obtain ⟨l, rfl, _, _, o⟩ := h; exact o.rep k
  | k d => obtain ⟨l, rfl, _, _, o⟩ := h; exact o.rep k
theorem WR.lst {ds : List D} (h : WR sr K H I v r) (k : Le I H) (e : r.d = .lst ds) : ∃ l vs, v = .ref l ∧ H l = some (.lst vs) ∧ Reps K sr.g1 I vs ds := by
  cases r with
  | v d =>
    cases (show d = .lst ds from e)
    cases (show Rep K sr.g1 I v (.lst ds) from h) with
    | lst q r => exact ⟨_, _, rfl, k _ _ q, r⟩
  | o d =>
    cases (show d = .lst ds from e)
    obtain ⟨l, rfl, _, _, vs, q, r⟩ := h
    exact ⟨l, vs, rfl, q, r⟩
  | k d =>
    cases (show d = .lst ds from e)
    obtain ⟨l, rfl, _, _, vs, q, r⟩ := h
    exact ⟨l, vs, rfl, q, r⟩
theorem WR.tup {ds : List D} (h : WR sr K H I v r) (e : r.d = .tup ds) : ∃ l vs, v = .ref l ∧ SqT K I l vs ∧ Reps K sr.g1 I vs ds := by
  cases r with
  | v d =>
    cases (show d = .tup ds from e)
    cases (show Rep K sr.g1 I v (.tup ds) from h) with
    | tup q r => exact ⟨_, _, rfl, q, r⟩
  | o d =>
    cases (show d = .tup ds from e)
    obtain ⟨l, rfl, _, _, o⟩ := h
    exact o.elim
  | k d =>
    cases (show d = .tup ds from e)
    obtain ⟨l, rfl, _, _, o⟩ := h
    exact o.elim
theorem WR.dct {ks ws : List D} (h : WR sr K H I v r) (k : Le I H) (e : r.d = .dct ks ws) : ∃ l kvs, v = .ref l ∧ H l = some (.dK kvs) ∧ Reps K sr.g1 I (kvs.map fun p => kV p.1) ks ∧ Reps K sr.g1 I (kvs.map fun p => p.2) ws := by
  cases r with
  | v d =>
    cases (show d = .dct ks ws from e)
    cases (show Rep K sr.g1 I v (.dct ks ws) from h) with
    | dct q r r' => exact ⟨_, _, rfl, k _ _ q, r, r'⟩
  | o d =>
    cases (show d = .dct ks ws from e)
    obtain ⟨l, rfl, _, _, vs, q, r, r'⟩ := h
    exact ⟨l, vs, rfl, q, r, r'⟩
  | k d =>
    cases (show d = .dct ks ws from e)
    obtain ⟨l, rfl, _, _, vs, q, r, r'⟩ := h
    exact ⟨l, vs, rfl, q, r, r'⟩
theorem WR.keyI (h : WR sr K H I v r) (hk : isKey r.d = true) : Rep K sr.g1 I v r.d := by
  cases r with
  | v d => exact h
  | o d =>
    obtain ⟨l, rfl, _, _, o⟩ := h
    cases d <;> first | exact o.elim | cases hk
  | k d =>
    obtain ⟨l, rfl, _, _, o⟩ := h
    cases d <;> first | exact o.elim | cases hk
/-- a key -/
theorem key_rep {v : V} {d : D} (h : Rep K g I v d) (hk : isKey d = true) : ∃ k : Key, v = kV k ∧ ∀ (k' : Key) (d' : D), Rep K g I (kV k') d' → keyEq d' d = decide (k' = k) := by
  cases h with
  | int i =>
    refine ⟨.inl i, rfl, fun k' d' h' => ?_⟩
    cases k' with
    | inl j => cases h'; show (j == i) = _; rw [show (decide ((Sum.inl j : Key) = Sum.inl i)) = decide (j = i) by simp]; rfl
    | inr x => cases h'; simp [keyEq]
  | str x =>
    refine ⟨.inr x, rfl, fun k' d' h' => ?_⟩
    cases k' with
    | inl j => cases h'; simp [keyEq]
    | inr y => cases h'; show (y == x) = _; rw [show (decide ((Sum.inr y : Key) = Sum.inr x)) = decide (y = x) by simp]; rfl
  | _ => cases hk
theorem valD_rep {k : Key} {d : D} (hk : ∀ (k' : Key) (d' : D), Rep K g I (kV k') d' → keyEq d' d = decide (k' = k)) : ∀ {kvs : List (Key × V)} {ks ws : List D}, Reps K g I (kvs.map fun p => kV p.1) ks → Reps K g I (kvs.map fun p => p.2) ws →
    (∀ e, valD ks ws d = some e → ∃ v, valV kvs k = some v ∧ Rep K g I v e) ∧ (valD ks ws d = none → valV kvs k = none)
  | [], _, _, .nil, .nil => ⟨fun e h => by simp [valD] at h, fun _ => rfl⟩
  | p :: kvs, _, _, .cons a as, .cons b bs => by
    obtain ⟨h1, h2⟩ := valD_rep hk as bs
    have e := hk _ _ a
    unfold valD
    rw [e]
    by_cases z : p.1 = k
    · rw [valV_pos z, if_pos (decide_eq_true z)]
      exact ⟨fun e h => (by cases h; exact ⟨_, rfl, b⟩), fun h => (by cases h)⟩
    · rw [valV_neg z, if_neg (fun q => z (of_decide_eq_true q))]
      exact ⟨h1, h2⟩
theorem putD_rep {k : Key} {d y : D} {v : V} (hk : ∀ (k' : Key) (d' : D), Rep K g I (kV k') d' → keyEq d' d = decide (k' = k)) (hd : Rep K g I (kV k) d) (hy : Rep K g I v y) {kvs : List (Key × V)} {ks ws : List D} (rk : Reps K g I (kvs.map fun p => kV p.1) ks) (rv : Reps K g I (kvs.map fun p => p.2) ws) :
    Reps K g I ((putK kvs k v).map fun p => kV p.1) (putD ks ws d y).1 ∧ Reps K g I ((putK kvs k v).map fun p => p.2) (putD ks ws d y).2 := by
  have any_eq : ∀ {kvs : List (Key × V)} {ks : List D}, Reps K g I (kvs.map fun p => kV p.1) ks → ks.any (keyEq · d) = kvs.any fun p => decide (p.1 = k) := by
    intro kvs
    induction kvs with
    | nil => intro ks r; cases r; rfl
    | cons p kvs ih =>
      intro ks r
      cases r with
      | cons a as => rw [List.any_cons, List.any_cons, hk _ _ a, ih as]
  unfold putD putK
  rw [any_eq rk]
  split
  · have key : ∀ {kvs : List (Key × V)} {ks ws : List D}, Reps K g I (kvs.map fun p => kV p.1) ks → Reps K g I (kvs.map fun p => p.2) ws →
        Reps K g I ((kvs.map fun kv => if kv.1 = k then (kv.1, v) else kv).map fun p => kV p.1) ks ∧ Reps K g I ((kvs.map fun kv => if kv.1 = k then (kv.1, v) else kv).map fun p => p.2) (repD ks ws d y) := by
      intro kvs
      induction kvs with
      | nil => intro ks ws r1 r2; cases r1; cases r2; exact ⟨.nil, .nil⟩
      | cons p kvs ih =>
        intro ks ws r1 r2
        cases r1 with
        | cons a as =>
          cases r2 with
          | cons b bs =>
            obtain ⟨i1, i2⟩ := ih as bs
            have e := hk _ _ a
            simp only [repD, List.map_cons, e]
            by_cases z : p.1 = k
            · rw [if_pos z, if_pos (decide_eq_true z)]
              exact ⟨.cons a i1, .cons hy i2⟩
            · rw [if_neg z, if_neg (fun q => z (of_decide_eq_true q))]
              exact ⟨.cons a i1, .cons b i2⟩
    exact key rk rv
  · rw [List.map_append, List.map_append]
    exact ⟨rk.append (.cons hd .nil), rv.append (.cons hy .nil)⟩
theorem WR.int {i : Int} (h : WR sr K H I v r) (k : Le I H) (e : r.d = .int i) : v = .int i := by
  have q := h.rep k
  rw [e] at q
  cases q; rfl
theorem WR.bl {i : Bool} (h : WR sr K H I v r) (k : Le I H) (e : r.d = .bl i) : v = .bl i := by
  have q := h.rep k
  rw [e] at q
  cases q; rfl
theorem WR.str {i : Str} (h : WR sr K H I v r) (k : Le I H) (e : r.d = .str i) : v = .str i := by
  have q := h.rep k
  rw [e] at q
  cases q; rfl
theorem WR.non (h : WR sr K H I v r) (k : Le I H) (e : r.d = .non) : v = .non := by
  have q := h.rep k
  rw [e] at q
  cases q; rfl
theorem WR.src (h : WR sr K H I v r) (k : Le I H) (e : r.d = .src) : v = .ref sr.g1 := by
  have q := h.rep k
  rw [e] at q
  cases q; rfl

/-- what is wanted behind a reckoning that gives r -/
def Post (sr : Sr τ) (K : PySem.W.Frag) (H I : Hp) (t' : τ) (r : R) (Q : VK) : Prop :=
  ∀ v H' I', HS sr H' I' t' → Ext sr H I H' I' → RR sr K H H' I' v r → Q v H'
theorem Post.flat {Q : VK} {d : D} (hs : HS sr H I t) (p : Post sr K H I t (.v d) Q) (h : Rep K sr.g1 I v d) : Q v H := p v H I hs (.refl _ _ _) h
theorem Post.newV {Q : VK} {d : D} {o : HO} (hs : HS sr H I t) (p : Post sr K H I t (.v d) Q) {l : Addr} (e : H l = none) (h : ∀ J, Le I J → J l = some o → Rep K sr.g1 J (.ref l) d) : Q (.ref l) (upd H l o) :=
  p _ _ (upd I l o) (hs.newI e) (.newI hs e) (h _ (Le.upd (hs.nI e)) upd_same)
theorem Post.newO {Q : VK} {d : D} {o : HO} (hs : HS sr H I t) (p : Post sr K H I t (.o d) Q) {l : Addr} (e : H l = none) (h : ∀ J, J l = some o → Own K sr.g1 J I l d) : Q (.ref l) (upd H l o) :=
  p _ _ I (hs.newO e) (.newO e) ⟨l, rfl, e, hs.ne1 e, hs.ne2 e, hs.nI e, h _ upd_same⟩
theorem Post.newL {Q : VK} {ds : List D} {vs : List V} (hs : HS sr H I t) (p : Post sr K H I t (.o (.lst ds)) Q) {l : Addr} (e : H l = none) (h : Reps K sr.g1 I vs ds) : Q (.ref l) (upd H l (.lst vs)) :=
  p.newO hs e fun J q => ⟨vs, q, h⟩
theorem Post.newT {Q : VK} {ds : List D} {vs : List V} (hs : HS sr H I t) (p : Post sr K H I t (.v (.tup ds)) Q) {l : Addr} (e : H l = none) (h : Reps K sr.g1 I vs ds) : Q (.ref l) (upd H l (.tup vs)) :=
  p.newV hs e fun J le q => .tup (.inl (.inl q)) (h.le le)

/-- a fresh object is let go of: from then on nobody changes it -/
theorem RR.frz {d : D} (hs : HS sr H' I' t') (x : Ext sr H I H' I') (h : RR sr K H H' I' v r) (e : r.st = some d) : ∃ J, HS sr H' J t' ∧ Ext sr H I H' J ∧ Rep K sr.g1 J v d := by
  cases r with
  | v d' => cases e; exact ⟨I', hs, x, h⟩
  | k d' => cases e
  | o d' =>
    cases e
    obtain ⟨l, rfl, f, n1, n2, nI, o⟩ := h
    obtain ⟨u, hu⟩ := o.some
    have hs' := hs.join hu n1 n2
    have le : Le I' (upd I' l u) := Le.upd nI
    refine ⟨upd I' l u, hs', ⟨x.im.trans le, x.keep, fun a q => ?_⟩, ?_⟩
    · by_cases z : a = l
      · exact .inr (by rw [z]; exact f)
      · rw [upd_ne z] at q; exact x.new a q
    · cases d with
      | lst ds =>
        obtain ⟨vs, q, r⟩ := o
        rw [hu] at q; cases q
        exact .lst upd_same (r.le le)
      | dct ks ws =>
        obtain ⟨kvs, q, r, r'⟩ := o
        rw [hu] at q; cases q
        exact .dct upd_same (r.le le) (r'.le le)
      | _ => exact o.elim
end
end PyI

set_option Elab.async false
set_option linter.all false
set_option maxRecDepth 100000
set_option maxHeartbeats 4000000
/-! PyI: the operations on values keep what the plain ones say. -/
namespace PyI
open PySem PySem.Spec PyProof.Rows L2
variable {τ : Type} {X : Cx} {sr : Sr τ} {H I : Hp} {t : τ} {x y : V} {ra rb r : R} {Q : VK} {pins : List (Addr × Obj)} {s : Shared} {σ : L2.St} {u w : Value}

def bop : BOp → Operator
  | .add => .Add | .sub => .Sub | .mul => .Mult | .fdiv => .FloorDiv | .mod => .Mod | .pow => .Pow

/-- // by any divisor below 2 ^ 9000 -/
theorem op_fdivZ : OpR X (binaryOp .FloorDiv) (rI (fun _ j => j ≠ 0 ∧ j.natAbs.log2 < 9000) fun i j => .int (i.fdiv j)) := opI fun i j _ _ _ _ _ hc q =>
  floordiv_int hc.1 q (.inl (PyProof.noPylong_of_log2 hc.2))
theorem op_modZ : OpR X (binaryOp .Mod) (rI (fun _ j => j ≠ 0) fun i j => .int (i.fmod j)) := op_modN

theorem bin_ok {op : BOp} (h : binD op ra.d rb.d = some r) (hs : HS sr H I t) (hx : WR sr X.K H I x ra) (hy : WR sr X.K H I y rb) (p : Post sr X.K H I t r Q)
    (J : Inv X pins σ H s) (r1 : RelV x u) (r2 : RelV y w) : wpAny (model X.prog X.w) X.A (binaryOp (bop op) u w) (EP X pins σ Q) X.xe s := by
  generalize ea : ra.d = da at h
  generalize eb : rb.d = db at h
  unfold binD at h
  split at h
  · cases h
    exact op_add pins s σ H x y u w Q J r1 r2 ⟨_, _, hx.int hs.sub ea, hy.int hs.sub eb, p.flat hs (.int _)⟩
  · split at h
    · rename_i z
      cases h
      exact op_add_str pins s σ H x y u w Q J r1 r2 ⟨_, _, hx.str hs.sub ea, hy.str hs.sub eb, z, p.flat hs (.str _)⟩
    · cases h
  · split at h
    · rename_i z
      cases h
      obtain ⟨l, vs, rfl, q, rs⟩ := hx.tup ea
      obtain ⟨m, ws, rfl, q', rs'⟩ := hy.tup eb
      refine op_catA pins s σ H _ _ u w Q J r1 r2 ⟨l, m, vs, ws, rfl, rfl, sqT_le hs.sub q, sqT_le hs.sub q', by rw [rs.length, rs'.length]; exact z, fun e => ?_, fun _ e => ?_, fun _ _ a e => p.newT hs e (rs.append rs')⟩
      · subst e
        cases rs
        exact p.flat hs (.tup q' rs')
      · subst e
        cases rs'
        refine p.flat hs ?_
        rw [List.append_nil]
        exact .tup q rs
    · cases h
  · split at h
    · rename_i z
      cases h
      obtain ⟨l, vs, rfl, q, rs⟩ := hx.lst hs.sub ea
      obtain ⟨m, ws, rfl, q', rs'⟩ := hy.lst hs.sub eb
      exact op_cat pins s σ H _ _ u w Q J r1 r2 ⟨l, m, vs, ws, rfl, rfl, q, q', by rw [rs.length, rs'.length]; exact z, fun a e => p.newL hs e (rs.append rs')⟩
    · cases h
  · cases h
    exact op_sub pins s σ H x y u w Q J r1 r2 ⟨_, _, hx.int hs.sub ea, hy.int hs.sub eb, p.flat hs (.int _)⟩
  · split at h
    · rename_i z
      cases h
      exact op_mulW pins s σ H x y u w Q J r1 r2 ⟨_, _, hx.int hs.sub ea, hy.int hs.sub eb, z, p.flat hs (.int _)⟩
    · cases h
  · split at h
    · rename_i z
      cases h
      obtain ⟨l, vs, rfl, q, rs⟩ := hx.tup ea
      exact op_repT pins s σ H _ _ u w Q J r1 r2 ⟨l, _, vs, rfl, hy.int hs.sub eb, sqT_le hs.sub q, (fun e => z.1 (by rw [← rs.length, e]; rfl)), z.2.1, z.2.2.1, by rw [rs.length]; exact z.2.2.2, fun a e => p.newT hs e (rs.rep _)⟩
    · cases h
  · split at h
    · rename_i z
      cases h
      obtain ⟨l, vs, rfl, q, rs⟩ := hx.lst hs.sub ea
      have z1 := z.1
      have z2 := z.2.1
      exact op_rep pins s σ H _ _ u w Q J r1 r2 ⟨l, _, vs, rfl, hy.int hs.sub eb, q, by omega, by omega, by rw [rs.length]; exact z.2.2, fun a e => p.newL hs e (rs.rep _)⟩
    · cases h
  · split at h
    · rename_i z
      cases h
      exact op_fdivZ pins s σ H x y u w Q J r1 r2 ⟨_, _, hx.int hs.sub ea, hy.int hs.sub eb, z, p.flat hs (.int _)⟩
    · cases h
  · split at h
    · rename_i z
      cases h
      exact op_modZ pins s σ H x y u w Q J r1 r2 ⟨_, _, hx.int hs.sub ea, hy.int hs.sub eb, z, p.flat hs (.int _)⟩
    · cases h
  · split at h
    · rename_i z
      cases h
      exact op_pow pins s σ H x y u w Q J r1 r2 ⟨_, _, hx.int hs.sub ea, hy.int hs.sub eb, z, p.flat hs (.int _)⟩
    · cases h
  · cases h

/-! ### comparisons -/
mutual
theorem dp_of {K : PySem.W.Frag} {g : Addr} {H : Hp} : ∀ (d : D) {v : V} {p : PyData}, Rep K g H v d → d.toP = some p → Dp K H v p
  | .non, _, _, h, e => by cases h; cases e; exact .non
  | .bl b, _, _, h, e => by cases h; cases e; exact .bl b
  | .int i, _, _, h, e => by cases h; cases e; exact .int i
  | .str x, _, _, h, e => by cases h; cases e; exact .str x
  | .tup xs, _, _, h, e => by
    simp only [D.toP, Option.map_eq_some_iff] at e
    obtain ⟨ps, e, rfl⟩ := e
    cases h with
    | tup q r => exact .tup q (dpAll_of xs r e)
  | .lst xs, _, _, h, e => by
    simp only [D.toP, Option.map_eq_some_iff] at e
    obtain ⟨ps, e, rfl⟩ := e
    cases h with
    | lst q r => exact .lst (.inl (.inl q)) (dpAll_of xs r e)
  | .dct _ _, _, _, _, e => by simp [D.toP] at e
  | .src, _, _, _, e => by simp [D.toP] at e
theorem dpAll_of {K : PySem.W.Frag} {g : Addr} {H : Hp} : ∀ (ds : List D) {vs : List V} {ps : List PyData}, Reps K g H vs ds → D.toPs ds = some ps → DpAll K H vs ps
  | [], _, _, h, e => by cases h; simp [D.toPs] at e; subst e; exact .nil
  | d :: ds, _, _, h, e => by
    simp only [D.toPs, Option.bind_eq_some_iff, Option.map_eq_some_iff] at e
    obtain ⟨p, e1, ps, e2, rfl⟩ := e
    cases h with
    | cons h r => exact .cons (dp_of d h e1) (dpAll_of ds r e2)
end
mutual
theorem toP_noDict : ∀ (d : D) {p : PyData}, d.toP = some p → p.hasDict = false
  | .non, _, e => by cases e; rfl
  | .bl b, _, e => by cases e; rfl
  | .int i, _, e => by cases e; rfl
  | .str x, _, e => by cases e; rfl
  | .tup xs, _, e => by
    simp only [D.toP, Option.map_eq_some_iff] at e
    obtain ⟨ps, e, rfl⟩ := e
    simp only [PyData.hasDict]
    exact toPs_noDict xs e
  | .lst xs, _, e => by
    simp only [D.toP, Option.map_eq_some_iff] at e
    obtain ⟨ps, e, rfl⟩ := e
    simp only [PyData.hasDict]
    exact toPs_noDict xs e
  | .dct _ _, _, e => by simp [D.toP] at e
  | .src, _, e => by simp [D.toP] at e
theorem toPs_noDict : ∀ (ds : List D) {ps : List PyData}, D.toPs ds = some ps → PyData.hasDictAll ps = false
  | [], _, e => by simp [D.toPs] at e; subst e; rfl
  | d :: ds, _, e => by
    simp only [D.toPs, Option.bind_eq_some_iff, Option.map_eq_some_iff] at e
    obtain ⟨p, e1, ps, e2, rfl⟩ := e
    simp only [PyData.hasDictAll, toP_noDict d e1, toPs_noDict ds e2, Bool.or_self]
end

def cop : COp → CmpOp
  | .eq => .Eq | .ne => .NotEq | .lt => .Lt | .le => .LtE | .gt => .Gt | .ge => .GtE | .inn => .In | .nin => .NotIn

theorem flat_rep {K : PySem.W.Frag} {g : Addr} {v : V} : ∀ {d : D}, Rep K g I v d → flat d = true → flatV v = true
  | .non, h, _ => by cases h; rfl
  | .bl _, h, _ => by cases h; rfl
  | .int _, h, _ => by cases h; rfl
  | .str _, h, _ => by cases h; rfl
  | .tup _, _, e => by cases e
  | .lst _, _, e => by cases e
  | .dct _ _, _, e => by cases e
  | .src, _, e => by cases e
theorem flat_reps {K : PySem.W.Frag} {g : Addr} : ∀ {ds : List D} {vs : List V}, Reps K g I vs ds → ds.all flat = true → vs.all flatV = true
  | [], _, .nil, _ => rfl
  | d :: ds, _, .cons h r, e => by
    simp only [List.all_cons, Bool.and_eq_true] at e ⊢
    exact ⟨flat_rep h e.1, flat_reps r e.2⟩
theorem eqF_rep {K : PySem.W.Frag} {g : Addr} {v v' : V} : ∀ {d d' : D}, Rep K g I v d → Rep K g I v' d' → flat d = true → flat d' = true → eqF d d' = eqV v v' := by
  intro d d' h h' f f'
  cases h <;> first | (cases f; done) | (cases h' <;> first | (cases f'; done) | rfl)
theorem any_rep {K : PySem.W.Frag} {g : Addr} {v : V} {d : D} (h : Rep K g I v d) (f : flat d = true) : ∀ {ds : List D} {vs : List V}, Reps K g I vs ds → ds.all flat = true → (ds.any fun y => eqF y d) = inV v vs
  | [], _, .nil, _ => rfl
  | e :: ds, _, .cons k r, z => by
    simp only [List.all_cons, Bool.and_eq_true] at z
    unfold inV
    rw [List.any_cons, List.any_cons, eqF_rep k h z.1 f]
    exact congrArg (_ || ·) (any_rep h f r z.2)

theorem cmp_ok {op : COp} {c : Bool} (h : cmpD op ra.d rb.d = some c) (hu : X.A.units + 64 < cLine) (hs : HS sr H I t) (hx : WR sr X.K H I x ra) (hy : WR sr X.K H I y rb) (q : Q (.bl c) H)
    (J : Inv X pins σ H s) (r1 : RelV x u) (r2 : RelV y w) : wpAny (model X.prog X.w) X.A (compareOp (cop op) u w) (EP X pins σ Q) X.xe s := by
  have hxr := hx.rep hs.sub
  have hyr := hy.rep hs.sub
  generalize ea : ra.d = da at h hxr
  generalize eb : rb.d = db at h hyr
  have eqq : ∀ {c : Bool}, eqD da db = some c → ∃ d e, Dp X.K H x d ∧ Dp X.K H y e ∧ SeqAt.shaped d = true ∧ SeqAt.shaped e = true ∧ PyData.eqv d e = c := fun {c} h => by
    unfold eqD at h
    split at h
    · rename_i p q e1 e2
      split at h
      · rename_i z
        rw [Bool.and_eq_true] at z
        cases h
        exact ⟨p, q, dp_of _ hxr e1, dp_of _ hyr e2, z.1, z.2, rfl⟩
      · cases h
    · cases h
  unfold cmpD at h
  split at h
  · obtain ⟨d, e, d1, d2, s1, s2, rfl⟩ := eqq h
    exact op_eqD hu pins s σ H x y u w Q J r1 r2 ⟨d, e, d1, d2, s1, s2, q⟩
  · simp only [Option.map_eq_some_iff] at h
    obtain ⟨c', h, rfl⟩ := h
    obtain ⟨d, e, d1, d2, s1, s2, rfl⟩ := eqq h
    exact op_neD hu pins s σ H x y u w Q J r1 r2 ⟨d, e, d1, d2, s1, s2, q⟩
  · cases h
    exact op_lt pins s σ H x y u w Q J r1 r2 ⟨_, _, hx.int hs.sub ea, hy.int hs.sub eb, q⟩
  · cases h
    exact op_le pins s σ H x y u w Q J r1 r2 ⟨_, _, hx.int hs.sub ea, hy.int hs.sub eb, q⟩
  · cases h
    exact op_gt pins s σ H x y u w Q J r1 r2 ⟨_, _, hx.int hs.sub ea, hy.int hs.sub eb, q⟩
  · cases h
    exact op_ge pins s σ H x y u w Q J r1 r2 ⟨_, _, hx.int hs.sub ea, hy.int hs.sub eb, q⟩
  · split at h
    · rename_i z
      rw [Bool.and_eq_true] at z
      cases h
      obtain ⟨l, vs, rfl, ql, rs⟩ := hy.lst hs.sub eb
      refine op_in_seq pins s σ H x _ u w Q J r1 r2 ⟨l, vs, rfl, .inl (.inl (.inl ql)), flat_rep hxr z.1, flat_reps rs z.2, ?_⟩
      rw [any_rep hxr z.1 (rs.le hs.sub) z.2] at q
      exact q
    · cases h
  · split at h
    · rename_i z
      rw [Bool.and_eq_true] at z
      cases h
      obtain ⟨l, vs, rfl, ql, rs⟩ := hy.tup eb
      refine op_in_seq pins s σ H x _ u w Q J r1 r2 ⟨l, vs, rfl, .inr (sqT_le hs.sub ql), flat_rep hxr z.1, flat_reps rs z.2, ?_⟩
      rw [any_rep hxr z.1 (rs.le hs.sub) z.2] at q
      exact q
    · cases h
  · split at h
    · rename_i z
      rw [Bool.and_eq_true] at z
      cases h
      obtain ⟨l, vs, rfl, ql, rs⟩ := hy.lst hs.sub eb
      refine op_notIn_seq pins s σ H x _ u w Q J r1 r2 ⟨l, vs, rfl, .inl (.inl (.inl ql)), flat_rep hxr z.1, flat_reps rs z.2, ?_⟩
      rw [any_rep hxr z.1 (rs.le hs.sub) z.2] at q
      exact q
    · cases h
  · split at h
    · rename_i z
      rw [Bool.and_eq_true] at z
      cases h
      obtain ⟨l, vs, rfl, ql, rs⟩ := hy.tup eb
      refine op_notIn_seq pins s σ H x _ u w Q J r1 r2 ⟨l, vs, rfl, .inr (sqT_le hs.sub ql), flat_rep hxr z.1, flat_reps rs z.2, ?_⟩
      rw [any_rep hxr z.1 (rs.le hs.sub) z.2] at q
      exact q
    · cases h
  · cases h

/-! ### truth -/
theorem tru_of {b : Bool} (h : truth r.d = some b) (hs : HS sr H I t) (hx : WR sr X.K H I x r) : TruV X.K x H b := by
  generalize ea : r.d = da at h
  cases da with
  | non => cases h; rw [hx.non hs.sub ea]; rfl
  | bl c => cases h; rw [hx.bl hs.sub ea]; rfl
  | int i => cases h; rw [hx.int hs.sub ea]; rfl
  | str z =>
    simp only [truth] at h
    split at h
    · rename_i hz
      cases h
      rw [hx.str hs.sub ea]
      exact ⟨hz, rfl⟩
    · cases h
  | tup xs =>
    cases h
    obtain ⟨l, vs, rfl, q, rs⟩ := hx.tup ea
    refine .inr (.inl ⟨vs, sqT_le hs.sub q, ?_⟩)
    cases rs <;> rfl
  | lst xs =>
    cases h
    obtain ⟨l, vs, rfl, q, rs⟩ := hx.lst hs.sub ea
    refine .inl ⟨vs, .inl (.inl q), ?_⟩
    cases rs <;> rfl
  | dct ks ws =>
    cases h
    have q := hx.rep hs.sub
    rw [ea] at q
    cases q with
    | dct q rs rs2 =>
      refine .inr (.inr ⟨_, q, ?_⟩)
      rename_i kvs
      have e2 := rs.length
      rw [List.length_map] at e2
      clear rs rs2 q hx ea
      cases kvs <;> cases ks <;> first | rfl | simp at e2
  | src => cases h

/-! ### subscripts -/
theorem ix_ok (hu : X.A.units + 64 < cLine) {value slice : Expr} {d : D} (h : ixD ra.d rb.d = some d) (hs : HS sr H I t) (hx : WR sr X.K H I x ra) (hy : WR sr X.K H I y rb) (q : ∀ v, Rep X.K sr.g1 I v d → Q v H)
    (J : Inv X pins σ H s) (r1 : RelV x u) (r2 : RelV y w) (hp : subscripted slice false u w = operate [u, w] (getItem u w)) : wpAny (model X.prog X.w) X.A (subscriptTail value slice u w) (EP X pins σ Q) X.xe s := by
  generalize ea : ra.d = da at h
  generalize eb : rb.d = db at h
  have at_ : ∀ {ds : List D} {vs : List V} {i : Int} {d : D}, Reps X.K sr.g1 I vs ds → atI ds i = some d → ∃ v, atI vs i = some v ∧ Rep X.K sr.g1 I v d := fun {ds vs i d} rs e => by
    unfold atI at e ⊢
    rw [rs.length]
    cases e' : L2.ixN ds.length i with
    | none => rw [e'] at e; cases e
    | some j =>
      rw [e'] at e
      obtain ⟨v, e1, e2⟩ := rs.get e
      exact ⟨v, e1, e2⟩
  unfold ixD at h
  split at h
  · obtain ⟨l, vs, rfl, ql, rs⟩ := hx.lst hs.sub ea
    obtain ⟨v, e1, e2⟩ := at_ rs h
    exact ix_list value slice pins s σ H _ y u w Q J r1 r2 ⟨l, vs, _, v, rfl, hy.int hs.sub eb, .inl (.inl ql), e1, q v e2⟩ hp
  · obtain ⟨l, vs, rfl, ql, rs⟩ := hx.tup ea
    obtain ⟨v, e1, e2⟩ := at_ rs h
    exact ix_tup value slice pins s σ H _ y u w Q J r1 r2 ⟨l, vs, _, v, rfl, hy.int hs.sub eb, sqT_le hs.sub ql, e1, q v e2⟩ hp
  · split at h
    · rename_i z
      obtain ⟨l, kvs, rfl, ql, rk, rw_⟩ := hx.dct hs.sub ea
      have hyr := hy.keyI (by rw [eb]; exact z)
      rw [eb] at hyr
      obtain ⟨k, rfl, hk⟩ := key_rep hyr z
      obtain ⟨v', e3, e4⟩ := (valD_rep hk rk rw_).1 d h
      have g : DGet H l (kV k) (some v') := by rw [← e3]; exact DGet.k ql
      cases r1
      refine tail_any (ops := [.ref l, w]) (dict_typeIs J g) PySem.F.slot_dict_getitem.lookup (d_getItem (by omega) J g r2 fun w' s' J' rv => ⟨v', H, J', rv, q v' e4⟩) hp
    · cases h
  · cases h

theorem reps_cut {K : PySem.W.Frag} {g : Addr} {vs : List V} {ds : List D} (rs : Reps K g I vs ds) (lo hi : Option Int) : Reps K g I (cutV vs lo hi) (cut ds lo hi) := by
  unfold cutV cut
  rw [rs.length]
  exact (rs.drop _).take _
def rSlD (sr : Sr τ) (K : PySem.W.Frag) (t : τ) : V → Option Int → Option Int → Hp → VK → Prop := fun x lo hi H Q => ∃ I ra r, HS sr H I t ∧ WR sr K H I x ra ∧ slcD ra.d lo hi = some r ∧ Post sr K H I t r Q
theorem sl_ok : SlR X (rSlD sr X.K t) := by
  intro pins s σ H x v vl vu lo hi sl Q J rx hsl pl pu h
  obtain ⟨I, ra, r, hs, hx, e, p⟩ := h
  generalize ea : ra.d = da at e
  unfold slcD at e
  split at e
  · cases e
    obtain ⟨l, vs, rfl, ql, rs⟩ := hx.lst hs.sub ea
    exact sl_list pins s σ H _ v vl vu lo hi sl Q J rx hsl pl pu ⟨l, vs, rfl, .inl (.inl ql), fun a n => p.newL hs n (reps_cut rs lo hi)⟩
  · cases e
    obtain ⟨l, vs, rfl, ql, rs⟩ := hx.tup ea
    refine sl_tupA pins s σ H _ v vl vu lo hi sl Q J rx hsl pl pu ⟨l, vs, rfl, sqT_le hs.sub ql, fun ⟨w1, w2⟩ => ?_, fun _ a n => p.newT hs n (reps_cut rs lo hi)⟩
    refine p.flat hs (.tup ql ?_)
    have c := reps_cut rs lo hi
    unfold cutV at c
    rw [w1, w2, List.drop_zero, Nat.sub_zero, List.take_length] at c
    exact c
  · cases e

/-! ### built-in functions -/
theorem isort_uniq {l m : List Int} (p : m.Perm l) (q : m.Pairwise (· ≤ ·)) : m = isort l := by
  have h1 : (isort l).Pairwise (· ≤ ·) := by
    have := List.pairwise_mergeSort (le := fun a b : Int => decide (a ≤ b)) (fun a b c x y => by simp at *; omega) (fun a b => by simp; omega) l
    exact this.imp fun h => by simpa using h
  have h2 : (isort l).Perm l := List.mergeSort_perm _ _
  exact (p.trans h2.symm).eq_of_pairwise (fun a b _ _ h h' => by omega) q h1
theorem maxI_of {l : List Int} (h : l ≠ []) : maxI l ∈ l ∧ ∀ y ∈ l, y ≤ maxI l := by
  cases l with
  | nil => exact absurd rfl h
  | cons x xs =>
    clear h
    show xs.foldl max x ∈ x :: xs ∧ ∀ y ∈ x :: xs, y ≤ xs.foldl max x
    induction xs generalizing x with
    | nil => simp
    | cons z zs ih =>
      obtain ⟨h1, h2⟩ := ih (max x z)
      rw [List.foldl_cons]
      refine ⟨?_, fun y hy => ?_⟩
      · rcases List.mem_cons.mp h1 with e | e
        · rw [e]
          rcases Int.le_total x z with k | k
          · rw [Int.max_eq_right k]; simp
          · rw [Int.max_eq_left k]; simp
        · simp [e]
      · have h0 := h2 (max x z) (by simp)
        have a1 : x ≤ max x z := Int.le_max_left _ _
        have a2 : z ≤ max x z := Int.le_max_right _ _
        rcases List.mem_cons.mp hy with e | hy
        · subst e; omega
        · rcases List.mem_cons.mp hy with e | hy
          · subst e; omega
          · exact h2 y (by simp [hy])
theorem minI_of {l : List Int} (h : l ≠ []) : minI l ∈ l ∧ ∀ y ∈ l, minI l ≤ y := by
  cases l with
  | nil => exact absurd rfl h
  | cons x xs =>
    clear h
    show xs.foldl min x ∈ x :: xs ∧ ∀ y ∈ x :: xs, xs.foldl min x ≤ y
    induction xs generalizing x with
    | nil => simp
    | cons z zs ih =>
      obtain ⟨h1, h2⟩ := ih (min x z)
      rw [List.foldl_cons]
      refine ⟨?_, fun y hy => ?_⟩
      · rcases List.mem_cons.mp h1 with e | e
        · rw [e]
          rcases Int.le_total x z with k | k
          · rw [Int.min_eq_left k]; simp
          · rw [Int.min_eq_right k]; simp
        · simp [e]
      · have h0 := h2 (min x z) (by simp)
        have a1 : min x z ≤ x := Int.min_le_left _ _
        have a2 : min x z ≤ z := Int.min_le_right _ _
        rcases List.mem_cons.mp hy with e | hy
        · subst e; omega
        · rcases List.mem_cons.mp hy with e | hy
          · subst e; omega
          · exact h2 y (by simp [hy])
theorem vals1 {v : V} {us : List Value} (h : Vals [v] us) : ∃ u, us = [u] ∧ RelV v u := Vals.one h

/-- repr of what has a text -/
theorem repr_any {v : V} {p : PyData} (d : Dp X.K H v p) (hd : p.hasDict = false) (h1 : p.showable = true) (h2 : p.shown.length ≤ sizeLine) (h3 : p.depth ≤ 60) (hg : X.A.guards = some []) (hu : X.A.units + 64 < cLine) (q : Q (.str p.shown) H)
    (J : Inv X pins σ H s) (rv : RelV v u) : wpAny (model X.prog X.w) X.A (call (.builtin "repr") [u]) (EP X pins σ Q) X.xe s := by
  obtain ⟨as, R⟩ := Dp.reads J p v u d rv
  cases d with
  | non =>
    cases rv
    exact PySem.P.repr_of_none ⟨.str _, H, J.tok _, ⟨_, rfl⟩, q⟩
  | bl b =>
    cases rv
    exact PySem.P.repr_of_bool ⟨.str _, H, J.tok _, ⟨_, rfl⟩, by cases b <;> exact q⟩
  | int i =>
    obtain ⟨t', rfl⟩ := rv
    exact PySem.P.repr_of_int (by simpa [PyData.showable] using h1) ⟨.str _, H, J.tok _, ⟨_, rfl⟩, q⟩
  | str z =>
    obtain ⟨t', rfl⟩ := rv
    exact PySem.P.repr_of_str ⟨.str _, H, J.tok _, ⟨_, rfl⟩, q⟩ h2
  | lst a b =>
    cases rv
    refine repr_of_reads' R h1 (fun z => by rw [hd] at z; cases z) hg ?_ (fun _ _ e => e) (fun h' u' tk hk => ⟨.str _, H, J.kept hk, ⟨_, rfl⟩, q⟩) h2
    omega
  | tup a b =>
    cases rv
    refine repr_of_reads' R h1 (fun z => by rw [hd] at z; cases z) hg ?_ (fun _ _ e => e) (fun h' u' tk hk => ⟨.str _, H, J.kept hk, ⟨_, rfl⟩, q⟩) h2
    omega
def b1v : B1 → Value
  | .len => .builtin "len" | .abs => .builtin "abs" | .all => .builtin "all" | .any => .builtin "any" | .sum => .builtin "sum" | .tuple => .type "tuple" | .list => .type "list"
  | .repr => .builtin "repr" | .int => .type "int" | .max => .builtin "max" | .min => .builtin "min" | .sorted => .builtin "sorted"
def rB1 (sr : Sr τ) (K : PySem.W.Frag) (t : τ) (f : B1) : List V → Hp → VK → Prop := fun xs H Q => ∃ x I ra r, xs = [x] ∧ HS sr H I t ∧ WR sr K H I x ra ∧ b1D f ra.d = some r ∧ Post sr K H I t r Q
theorem b1_ok (hc : X.calm = true) (hg : X.A.guards = some []) (hu : X.A.units + 64 < cLine) {f : B1} : CallR X (b1v f) (rB1 sr X.K t f) := by
  intro pins s σ H xs us Q J rv h
  obtain ⟨x, I, ra, r, rfl, hs, hx, e, p⟩ := h
  have hxr := hx.rep hs.sub
  generalize ea : ra.d = da at e hxr
  unfold b1D at e
  split at e
  · cases e
    obtain ⟨l, vs, rfl, ql, rs⟩ := hx.lst hs.sub ea
    refine call_len_seq pins s σ H _ us Q J rv ⟨l, vs, rfl, .inl (.inl (.inl ql)), ?_⟩
    rw [rs.length]
    exact p.flat hs (.int _)
  · cases e
    obtain ⟨l, vs, rfl, ql, rs⟩ := hx.tup ea
    refine call_len_seq pins s σ H _ us Q J rv ⟨l, vs, rfl, .inr (sqT_le hs.sub ql), ?_⟩
    rw [rs.length]
    exact p.flat hs (.int _)
  · cases e
    obtain ⟨l, kvs, rfl, ql, rk, rw_⟩ := hx.dct hs.sub ea
    refine call_lenD pins s σ H _ us Q J rv ⟨l, kvs, rfl, ql, ?_⟩
    rw [← rk.length, List.length_map] at p
    exact p.flat hs (.int _)
  · cases e
    exact call_int1 pins s σ H _ us Q J rv (.inl ⟨_, congrArg (· :: []) (hx.int hs.sub ea), p.flat hs (.int _)⟩)
  · cases e
    exact call_int1 pins s σ H _ us Q J rv (.inr ⟨_, congrArg (· :: []) (hx.bl hs.sub ea), p.flat hs (.int _)⟩)
  · split at e
    · rename_i z
      cases e
      exact call_len_str pins s σ H _ us Q J rv ⟨_, congrArg (· :: []) (hx.str hs.sub ea), z, p.flat hs (.int _)⟩
    · cases e
  · cases e
    exact call_abs pins s σ H _ us Q J rv ⟨_, congrArg (· :: []) (hx.int hs.sub ea), p.flat hs (.int _)⟩
  · simp only [Option.map_eq_some_iff] at e
    obtain ⟨bs, e, rfl⟩ := e
    obtain ⟨l, vs, rfl, ql, rs⟩ := hx.lst hs.sub ea
    exact cr_all hc pins s σ H _ us Q J rv ⟨l, bs, rfl, .inl (.inl (by rw [← reps_bools e rs]; exact ql)), p.flat hs (.bl _)⟩
  · simp only [Option.map_eq_some_iff] at e
    obtain ⟨bs, e, rfl⟩ := e
    obtain ⟨l, vs, rfl, ql, rs⟩ := hx.lst hs.sub ea
    exact cr_any hc pins s σ H _ us Q J rv ⟨l, bs, rfl, .inl (.inl (by rw [← reps_bools e rs]; exact ql)), p.flat hs (.bl _)⟩
  · simp only [Option.map_eq_some_iff] at e
    obtain ⟨bs, e, rfl⟩ := e
    obtain ⟨l, vs, rfl, ql, rs⟩ := hx.lst hs.sub ea
    exact cr_sum hc pins s σ H _ us Q J rv ⟨l, bs, rfl, .inl (.inl (by rw [← reps_ints e rs]; exact ql)), p.flat hs (.int _)⟩
  · cases e
    obtain ⟨l, vs, rfl, ql, rs⟩ := hx.lst hs.sub ea
    exact call_tuple_of pins s σ H _ us Q J rv ⟨l, vs, rfl, .inl ⟨.inl (.inl ql), fun a n => p.newT hs n rs⟩⟩
  · cases e
    obtain ⟨l, vs, rfl, ql, rs⟩ := hx.tup ea
    exact call_tuple_of pins s σ H _ us Q J rv ⟨l, vs, rfl, .inr ⟨sqT_le hs.sub ql, p.flat hs (.tup ql rs)⟩⟩
  · cases e
    obtain ⟨l, vs, rfl, ql, rs⟩ := hx.lst hs.sub ea
    exact call_list_of pins s σ H _ us Q J rv ⟨l, vs, rfl, .inl (.inl (.inl ql)), fun a n => p.newL hs n rs⟩
  · cases e
    obtain ⟨l, vs, rfl, ql, rs⟩ := hx.tup ea
    exact call_list_of pins s σ H _ us Q J rv ⟨l, vs, rfl, .inr (sqT_le hs.sub ql), fun a n => p.newL hs n rs⟩
  · simp only [Option.bind_eq_some_iff] at e
    obtain ⟨is, e, e2⟩ := e
    split at e2
    · cases e2
    · rename_i ne
      cases e2
      obtain ⟨l, vs, rfl, ql, rs⟩ := hx.lst hs.sub ea
      obtain ⟨m1, m2⟩ := maxI_of ne
      refine cr_max hc pins s σ H _ us Q J rv ⟨l, is, rfl, .inl (.inl (by rw [← reps_ints e rs]; exact ql)), List.length_pos_iff.mpr ne, fun m hm hy => ?_⟩
      have : m = maxI is := Int.le_antisymm (m2 m hm) (hy _ m1)
      subst this
      exact p.flat hs (.int _)
  · simp only [Option.bind_eq_some_iff] at e
    obtain ⟨is, e, e2⟩ := e
    split at e2
    · cases e2
    · rename_i ne
      cases e2
      obtain ⟨l, vs, rfl, ql, rs⟩ := hx.lst hs.sub ea
      obtain ⟨m1, m2⟩ := minI_of ne
      refine cr_min hc pins s σ H _ us Q J rv ⟨l, is, rfl, .inl (.inl (by rw [← reps_ints e rs]; exact ql)), List.length_pos_iff.mpr ne, fun m hm hy => ?_⟩
      have : m = minI is := Int.le_antisymm (hy _ m1) (m2 m hm)
      subst this
      exact p.flat hs (.int _)
  · simp only [Option.bind_eq_some_iff] at e
    obtain ⟨is, e, e2⟩ := e
    split at e2
    · rename_i z
      cases e2
      obtain ⟨l, vs, rfl, ql, rs⟩ := hx.lst hs.sub ea
      refine cr_sorted pins s σ H _ us Q J rv ⟨l, is, rfl, .inl (.inl (by rw [← reps_ints e rs]; exact ql)), z, ?_⟩
      intro ns' a hp hq n
      rw [← isort_uniq hp hq] at p
      exact p.newL hs n (reps_of_ints _)
    · cases e2
  · simp only [Option.bind_eq_some_iff] at e
    obtain ⟨is, e, e2⟩ := e
    split at e2
    · rename_i z
      cases e2
      obtain ⟨l, kvs, rfl, ql, rk, rw_⟩ := hx.dct hs.sub ea
      have hk : kvs.map (·.1) = is.map Sum.inl := by
        have := reps_ints e rk
        clear ql rk rw_ e p rv ea hxr z
        induction kvs generalizing is with
        | nil => cases is <;> simp_all
        | cons q kvs ih =>
          cases is with
          | nil => simp at this
          | cons i is =>
            simp only [List.map_cons, List.cons.injEq] at this ⊢
            refine ⟨?_, ih is this.2⟩
            cases hq : q.1 with
            | inl j => rw [hq] at this; have := this.1; cases this; rfl
            | inr x => rw [hq] at this; have := this.1; cases this
      refine call_sortedDI hc pins s σ H _ us Q J rv ⟨l, kvs, is, rfl, .inl ql, hk, z, ?_⟩
      intro ns' a hp hq n
      rw [← isort_uniq hp hq] at p
      exact p.newL hs n (reps_of_ints _)
    · cases e2
  · simp only [Option.bind_eq_some_iff] at e
    obtain ⟨pd, e, e2⟩ := e
    split at e2
    · rename_i z
      simp only [Bool.and_eq_true, decide_eq_true_eq] at z
      cases e2
      obtain ⟨u, rfl, ru⟩ := Vals.one rv
      exact repr_any (dp_of _ hxr e) (toP_noDict _ e) z.1.1 z.1.2 z.2 hg hu (p.flat hs (.str _)) J ru
    · cases e2
  · cases e
def b2v : B2 → Value
  | .max => .builtin "max" | .min => .builtin "min" | .gcd => .builtin "math.gcd"
def rB2 (sr : Sr τ) (K : PySem.W.Frag) (t : τ) (f : B2) : List V → Hp → VK → Prop := fun xs H Q => ∃ x y I ra rb r, xs = [x, y] ∧ HS sr H I t ∧ WR sr K H I x ra ∧ WR sr K H I y rb ∧ b2D f ra.d rb.d = some r ∧ Post sr K H I t r Q
theorem b2_ok (hc : X.calm = true) {f : B2} : CallR X (b2v f) (rB2 sr X.K t f) := by
  intro pins s σ H xs us Q J rv h
  obtain ⟨x, y, I, ra, rb, r, rfl, hs, hx, hy, e, p⟩ := h
  generalize ea : ra.d = da at e
  generalize eb : rb.d = db at e
  unfold b2D at e
  split at e
  · cases e
    have e1 := hx.int hs.sub ea
    have e2 := hy.int hs.sub eb
    subst e1 e2
    exact call_max2 hc pins s σ H _ us Q J rv ⟨_, _, rfl, p.flat hs (.int _)⟩
  · cases e
    have e1 := hx.int hs.sub ea
    have e2 := hy.int hs.sub eb
    subst e1 e2
    exact call_min2 hc pins s σ H _ us Q J rv ⟨_, _, rfl, p.flat hs (.int _)⟩
  · cases e
    have e1 := hx.int hs.sub ea
    have e2 := hy.int hs.sub eb
    subst e1 e2
    exact cr_gcd pins s σ H _ us Q J rv ⟨_, _, rfl, p.flat hs (.int _)⟩
  · cases e
end PyI

set_option Elab.async false
set_option linter.all false
set_option maxRecDepth 100000
set_option maxHeartbeats 4000000
/-! PyI: what of a text is such a term; the judgements. -/
namespace PyI
open PySem PySem.Spec PyProof.Rows L2

/-! ### which text a term is -/
def visB (sc : Scope) (x : Str) : Bool := match sc.names.lookup x with
  | some .local => true | some .cell => true | some .free => true | _ => false
def locB (sc : Scope) (x : Str) : Bool := match sc.names.lookup x with
  | some .local => true | some .cell => true | _ => false
def glB (sc : Scope) (x : Str) : Bool := match sc.names.lookup x with
  | some .globalImplicit => true | _ => false
theorem vis_of {sc : Scope} {x : Str} (h : visB sc x = true) : Vis sc x := by
  unfold visB at h
  split at h <;> first | (rename_i e; first | exact .inl e | exact .inr (.inl e) | exact .inr (.inr e)) | cases h
theorem loc_of {sc : Scope} {x : Str} (h : locB sc x = true) : Loc sc x := by
  unfold locB at h
  split at h <;> first | (rename_i e; first | exact .inl e | exact .inr e) | cases h
theorem gl_of {sc : Scope} {x : Str} (h : glB sc x = true) : sc.names.lookup x = some .globalImplicit := by
  unfold glB at h
  split at h
  · assumption
  · cases h
def nonStar : Expr → Bool | .Starred _ _ => false | _ => true
def nonSlice : Expr → Bool | .Slice _ _ _ _ => false | _ => true
def isTup : Expr → Bool | .Tuple _ _ _ => true | _ => false
def isIt : C → Bool | .scons _ _ => true | .rng1 _ => true | .rng2 _ _ => true | .enm _ => true | .zp _ _ => true | .nil => true | .cons _ _ => true | _ => false
def isL : C → Bool | .scons _ _ => true | .nil => true | .cons _ _ => true | _ => false
/-- a list without stars -/
def isP : C → Bool | .nil => true | .cons _ b => isP b | _ => false
/-- a walk that gives pairs wants several names -/
def prs : C → Bool | .enm _ => true | .zp _ _ => true | _ => false
def b1n : B1 → Str
  | .len => "len" | .abs => "abs" | .all => "all" | .any => "any" | .sum => "sum" | .tuple => "tuple" | .list => "list" | .repr => "repr" | .max => "max" | .min => "min" | .sorted => "sorted" | .int => "int"
def b2n : B2 → Str | .max => "max" | .min => "min" | .gcd => "gcd"
def b2T (T : Nat → Option Str) : B2 → Bool | .gcd => decide (T 1000 = some "math.gcd") | _ => true
def tyn : Ty → Str | .int => "int" | .bool => "bool" | .str => "str" | .tup => "tuple" | .lst => "list" | .dct => "dict"
def tyT : Ty → String | .int => "int" | .bool => "bool" | .str => "str" | .tup => "tuple" | .lst => "list" | .dct => "dict"
def lit : Option Bool → Const | none => .none | some b => .bool b

/-- the places of a target -/
def tgIn (own : List Nat) : C → Bool
  | .var i => own.contains i
  | .tup es => tgIn own es
  | .nil => true
  | .cons a b => tgIn own a && tgIn own b
  | _ => false
/-- a target: names, tuples of such -/
def chkT (N : List Str) (sc : Scope) : C → List Expr → Bool
  | .var i, [.Name x _] => decide (N[i]? = some x) && locB sc x
  | .tup es, [.Tuple ts _ _] => isL es && chkT N sc es ts
  | .nil, [] => true
  | .cons a b, t :: ts => nonStar t && !isL a && chkT N sc a [t] && isL b && chkT N sc b ts
  | _, _ => false

def ownOf (N : List Str) (own : List Nat) : List (Str × Nat) := own.map fun i => (N.getD i "", i)

def isNon : C → Bool | .non => true | _ => false
def isTru : C → Bool | .bl b => b | _ => false
def partB (l : Option Expr) (b : Bool) (f : Expr → Bool) : Bool := match l with | none => b | some e => f e
def ifsB (l : List Expr) (b : Bool) (f : Expr → Bool) : Bool := match l with | [] => b | [e] => f e | _ => false
def chk (T : Nat → Option Str) (N : List Str) : C → Scope → List Expr → Bool
  | .var i, sc, [.Name x _] => decide (N[i]? = some x) && visB sc x && !(x == ("__debug__" : Str)) && !(x == ("__classdict__" : Str))
  | .non, _, [.Constant .none _ _] => true
  | .bl b, _, [.Constant (.bool c) _ _] => decide (b = c)
  | .int i, _, [.Constant (.int j) _ _] => decide (i = j)
  | .str x, _, [.Constant (.str y) _ _] => decide (x = y)
  | .nil, _, [] => true
  | .cons a b, sc, e :: es => nonStar e && !isIt a && chk T N a sc [e] && isL b && chk T N b sc es
  | .tup es, sc, [.Tuple xs _ _] => isL es && chk T N es sc xs
  | .lst es, sc, [.List xs _] => isL es && chk T N es sc xs
  | .dnil, _, [.Dict [] [] _] => true
  | .bin op a b, sc, [.BinOp x o y _] => decide (o = bop op) && !isIt a && !isIt b && chk T N a sc [x] && chk T N b sc [y]
  | .neg a, sc, [.UnaryOp .USub x _] => !isIt a && chk T N a sc [x]
  | .nt a, sc, [.UnaryOp .Not x _] => !isIt a && chk T N a sc [x]
  | .and_ a b, sc, [.BoolOp .And (x :: y :: rest) p] => !isIt a && !isIt b && chk T N a sc [x] && (match rest with | [] => chk T N b sc [y] | _ => chk T N b sc [.BoolOp .And (y :: rest) p])
  | .or_ a b, sc, [.BoolOp .Or (x :: y :: rest) p] => !isIt a && !isIt b && chk T N a sc [x] && (match rest with | [] => chk T N b sc [y] | _ => chk T N b sc [.BoolOp .Or (y :: rest) p])
  | .cmp op a b, sc, [.Compare x [o] [y] _] => decide (o = cop op) && !behindInMarks (cop op) y && !isIt a && !isIt b && chk T N a sc [x] && chk T N b sc [y]
  | .isc no a c, sc, [.Compare x [o] [.Constant k _ _] _] => decide (o = if no then .IsNot else .Is) && decide (k = lit c) && !isIt a && chk T N a sc [x]
  | .ife c a b, sc, [.IfExp z x y _] => !isIt c && !isIt a && !isIt b && chk T N c sc [z] && chk T N a sc [x] && chk T N b sc [y]
  | .call f es, sc, [.Call (.Name x _) (y :: ys) [] _] => decide (T f = some x) && !decide (x = "math.gcd") && glB sc x && !(x == ("__debug__" : Str)) && isP es && isL es && chk T N es sc (y :: ys)
  | .pick a m, sc, [.Call (.Name x _) [y, z] [] _] => decide (x = "_law_pick") && glB sc x && nonStar y && nonStar z && !isIt a && !isIt m && chk T N a sc [y] && chk T N m sc [z]
  | .b1 f a, sc, [.Call (.Name x _) [y] [] _] => decide (x = b1n f) && glB sc x && nonStar y && !isIt a && chk T N a sc [y]
  | .b2 f a b, sc, [.Call (.Name x _) [y, z] [] _] => b2T T f && decide (x = b2n f) && glB sc x && nonStar y && nonStar z && !isIt a && !isIt b && chk T N a sc [y] && chk T N b sc [z]
  | .isin a ty, sc, [.Call (.Name x _) [y, .Name z _] [] _] => decide (x = "isinstance") && decide (z = tyn ty) && glB sc x && glB sc z && nonStar y && !isIt a && chk T N a sc [y]
  | .ix a b, sc, [.Subscript x y _] => nonSlice y && !isIt a && !isIt b && chk T N a sc [x] && chk T N b sc [y]
  | .get a b c, sc, [.Call (.Attribute (.Name x px) m ap) [y, z] [] cp] => decide (m = "get") && ap.endLine == cp.line && nonStar y && nonStar z && !isIt a && !isIt b && !isIt c && chk T N a sc [.Name x px] && chk T N b sc [y] && chk T N c sc [z]
  | .rev a, sc, [.Subscript x (.Slice none none (some (.UnaryOp .USub (.Constant (.int o) _ _) _)) _) _] => decide (o = 1) && !isIt a && chk T N a sc [x]
  | .scons a b, sc, .Starred x _ :: es => !isIt a && chk T N a sc [x] && isL b && chk T N b sc es
  | .slc a lo hi, sc, [.Subscript x (.Slice l h none _) _] => !isIt a && !isIt lo && !isIt hi && chk T N a sc [x] &&
      partB l (isNon lo) (fun l => chk T N lo sc [l]) && partB h (isNon hi) (fun h => chk T N hi sc [h])
  | .comp own elt tg it test, sc, [.ListComp e [⟨t, i, ifs, 0⟩] scope _] => !isIt elt && !isIt test && !isL it && (!prs it || isTup t) && chk T N it sc [i] && blkC N sc scope (ownOf N own) && (tgIn own tg && !isL tg && chkT N scope tg [t]) &&
      ifsB ifs (isTru test) (fun c => chk T N test (relS scope sc) [c]) && chk T N elt (relS scope sc) [e]
  | .rng1 a, sc, [.Call (.Name x _) [y] [] _] => decide (x = "range") && glB sc x && nonStar y && !isIt a && chk T N a sc [y]
  | .rng2 a b, sc, [.Call (.Name x _) [y, z] [] _] => decide (x = "range") && glB sc x && nonStar y && nonStar z && !isIt a && !isIt b && chk T N a sc [y] && chk T N b sc [z]
  | .enm a, sc, [.Call (.Name x _) [y] [] _] => decide (x = "enumerate") && glB sc x && nonStar y && !isIt a && chk T N a sc [y]
  | .zp a b, sc, [.Call (.Name x _) [y, z] [] _] => decide (x = "zip") && glB sc x && nonStar y && nonStar z && !isIt a && !isIt b && chk T N a sc [y] && chk T N b sc [z]
  | _, _, _ => false

/-! ### judgements: what must hold so that a piece of syntax runs to what is wanted -/
section
variable (X : Cx)
def wE (e : Expr) : TE := fun σ H Q => ∀ (pins : List (Addr × Obj)) (s : Shared), Inv X pins σ H s → wpAny (model X.prog X.w) X.A (eval e X.env) (EP X pins σ Q) X.xe s
def wT (e : Expr) : TT := fun σ H Q => ∀ (pins : List (Addr × Obj)) (s : Shared), Inv X pins σ H s → wpAny (model X.prog X.w) X.A (isTrue e X.env (eval e X.env)) (TP X pins σ Q) X.xe s
def wW (e : Expr) : TT := fun σ H Q => ∀ (whole : Sem Value) (pins : List (Addr × Obj)) (s : Shared), Inv X pins σ H s → wpAny (model X.prog X.w) X.A (isTrue e X.env whole) (TP X pins σ Q) X.xe s
def wA (es : List Expr) : TA := fun σ H Q => ∀ (pos : Pos) (pins : List (Addr × Obj)) (s : Shared), Inv X pins σ H s → wpAny (model X.prog X.w) X.A (spliced (backTo pos (starEach es X.env))) (AP X pins σ Q) X.xe s
def wI (tg e : Expr) : TI := fun σ H R => ∀ (pins : List (Addr × Obj)) (s : Shared), Inv X pins σ H s → wpAny (model X.prog X.w) X.A (eval e X.env) (fun v s1 => wpAny (model X.prog X.w) X.A (pyIter v) (PIE X pins σ tg R) X.xe s1) X.xe s
def wS (l : List Stmt) : TS := fun D σ H => ∀ (pins : List (Addr × Obj)) (s : Shared), Inv X pins σ H s → wpAny (model X.prog X.w) X.A (execs l X.env) (SP X pins D) X.xe s
variable {X}
theorem pe_w (e : Expr) : PE X e (wE X e) := ⟨fun pins s _ _ _ I h => h pins s I⟩
theorem pt_w (e : Expr) : PT X e (wT X e) := ⟨fun pins s _ _ _ I h => h pins s I⟩
theorem pw_w (e : Expr) : PW X e (wW X e) := ⟨fun wh pins s _ _ _ I h => h wh pins s I⟩
theorem pa_w (es : List Expr) : PA X es (wA X es) := ⟨fun pos pins s _ _ _ I h => h pos pins s I⟩
theorem pi_w (tg e : Expr) : PI X tg e (wI X tg e) := ⟨fun pins s _ _ _ I h => h pins s I⟩
theorem pss_w (l : List Stmt) : PSs X l (wS X l) := ⟨fun pins s _ _ _ I h => h pins s I⟩
theorem wE.of {e : Expr} {te : TE} {σ : L2.St} {H : Hp} {Q : VK} (h : PE X e te) (q : te σ H Q) : wE X e σ H Q := fun pins s I => h.run pins s σ H Q I q
theorem wT.of {e : Expr} {te : TT} {σ : L2.St} {H : Hp} {Q : Bool → Hp → Prop} (h : PT X e te) (q : te σ H Q) : wT X e σ H Q := fun pins s I => h.run pins s σ H Q I q
theorem wA.of {es : List Expr} {te : TA} {σ : L2.St} {H : Hp} {Q : List V → Hp → Prop} (h : PA X es te) (q : te σ H Q) : wA X es σ H Q := fun pos pins s I => h.run pos pins s σ H Q I q
theorem wI.of {tg e : Expr} {te : TI} {σ : L2.St} {H : Hp} {R : It → Hp → Prop} (h : PI X tg e te) (q : te σ H R) : wI X tg e σ H R := fun pins s I => h.run pins s σ H R I q
theorem wS.of {l : List Stmt} {t : TS} {σ : L2.St} {H : Hp} {D : Ends} (h : PSs X l t) (q : t D σ H) : wS X l D σ H := fun pins s I => h.run pins s σ H D I q
end

/-! ### a def, where no repr is under way -/
structure FnG (P : Program) (w : World) (K : PySem.W.Frag) (mg : Str → Option Value) (base : Heap) (k : Nat) (f : Addr) (fd : FuncData) (ps : List Str) (sp : Sp) : Prop where
  len : ∀ vs H Q E, sp vs H Q E → vs.length = ps.length
  run : ∀ (A : Around) (outer : List Env) (s : Shared) (H : Hp) (args : Args) (us : List Value) (vs : List V) (Q : VK) (E : XK), A.guards = some [] → Room k A →
    Env0 P w K mg base A outer s H → BindsTo s fd args (ps.zip us) → Vals vs us → sp vs H Q E → codeAny (model P w) A (.call (.ref f) args) (CR CX0 outer P w H s Q E) s
theorem FnG.mono {P : Program} {w : World} {K : PySem.W.Frag} {mg : Str → Option Value} {base : Heap} {j k : Nat} {f : Addr} {fd : FuncData} {ps : List Str} {sp : Sp} (F : FnG P w K mg base j f fd ps sp) (h : j ≤ k) : FnG P w K mg base k f fd ps sp :=
  ⟨F.len, fun A o s H a us vs Q E g hr => F.run A o s H a us vs Q E g (hr.mono h)⟩
section
variable {X : Cx} {k : Nat} {f : Addr} {fd : FuncData} {ps : List Str} {sp : Sp} {x : Str} {p pos : Pos} {e : Expr} {es : List Expr} {t : TA}
theorem pe_callG (F : FnG X.prog X.w X.K X.mg X.base k f fd ps sp) (hG : X.A.guards = some []) (hr : Room k X.A) (hg : Gl X x) (hm : X.mg x = some (.ref f)) (hk : PySem.W.keepIn X.K (.ref f) = true) (hb : Binds X.K fd ps []) (ha : PA X (e :: es) t)
    (hdb : (x == ("__debug__" : Str)) = false) (he : starEach (e :: es) X.env = (false, eval e X.env) :: starEach es X.env) (hpl : (backTo pos (starEach es X.env)).any (·.1) = false) :
    PE X (.Call (.Name x p) (e :: es) [] pos) (fun σ H Q => t σ H fun vs H1 => sp vs H1 Q E0) := by
  constructor
  intro pins s σ H Q J h
  apply wpAny_Call_Name_kw
  apply ld_glob J hg hm _ hdb
  refine PySem.W.callWith_K (h₀ := X.base) J.ok.mod.kin hk ?_ he hpl
  refine thn (ha.run pos pins s σ H _ J h) fun us s1 ⟨vs, H1, J1, rv, q⟩ => ⟨J1.kIn, ?_⟩
  have hl : (us ++ ([] : List Value)).length = ps.length := by
    rw [List.append_nil, ← rv.length]; exact F.len _ _ _ _ q
  have hbind := hb s1 us J1.kIn hl
  rw [List.append_nil] at hbind
  refine wpAny_call (codeAny_mono (F.run X.A X.stack s1 H1 ⟨us, []⟩ us vs Q E0 hG hr J1.env0 hbind rv q) fun r s' hq => ?_)
  cases r with
  | error e => exact False.elim hq
  | ok fl => cases fl with
    | ret u => exact J1.after hq
    | next => exact hq.elim
    | brk => exact hq.elim
    | cont => exact hq.elim
end

/-! ### the program's defs -/
section
variable {τ : Type}
def spG (sr : Sr τ) (K : PySem.W.Frag) (np : Nat) (f : List D → τ → Option (R × τ)) : Sp := fun vs H Q _ => vs.length = np ∧ ∃ I t ds r t', HS sr H I t ∧ Reps K sr.g1 I vs ds ∧ f ds t = some (r, t') ∧ Post sr K H I t' r Q
def spP (sr : Sr τ) (K : PySem.W.Frag) (O : Pk τ) : Sp := fun vs H Q _ => ∃ I t m, vs = [.ref sr.g1, .int m] ∧ m < 1073741824 ∧ HS sr H I t ∧ Post sr K H I (O t m).2 (.v (.int (O t m).1)) Q
/-- the names of built-ins that the text may use -/
def bnames : List Str := ["len", "abs", "all", "any", "sum", "tuple", "list", "repr", "max", "min", "sorted", "isinstance", "int", "bool", "str", "dict", "range", "enumerate", "zip"]
structure Tab (sr : Sr τ) (O : Pk τ) (F : Fs τ) (T : Nat → Option Str) (n : Nat) (P : Program) (w : World) (K : PySem.W.Frag) (mg : Str → Option Value) (base : Heap) : Prop where
  fn : ∀ (f : Nat) (x : Str), x ≠ ("math.gcd" : Str) → T f = some x → ∃ fa fd ps np, mg x = some (.ref fa) ∧ PySem.W.keepIn K (.ref fa) = true ∧ Binds K fd ps [] ∧ (∀ ds t, ds.length ≠ np → F f ds t = none) ∧ FnG P w K mg base n fa fd ps (spG sr K np (F f))
  pk : ∃ fa fd ps, mg "_law_pick" = some (.ref fa) ∧ PySem.W.keepIn K (.ref fa) = true ∧ Binds K fd ps [] ∧ FnG P w K mg base n fa fd ps (spP sr K O)
  bl : ∀ x ∈ bnames, mg x = none
  gc : T 1000 = some "math.gcd" → mg "gcd" = some (.builtin "math.gcd")
structure GX (sr : Sr τ) (O : Pk τ) (F : Fs τ) (T : Nat → Option Str) (n : Nat) (X : Cx) : Prop where
  calm : X.calm = true
  gd : X.A.guards = some []
  rm : Room n X.A
  nd : X.N.Nodup
  xe : X.xe = fun _ _ => False
  tab : Tab sr O F T n X.prog X.w X.K X.mg X.base
theorem GX.hu {sr : Sr τ} {O : Pk τ} {F : Fs τ} {T : Nat → Option Str} {n : Nat} {X : Cx} (g : GX sr O F T n X) : X.A.units + 64 < cLine := g.rm.units

/-- the names' slots: plain data within I, or an object that the name alone holds -/
structure SR (sr : Sr τ) (K : PySem.W.Frag) (H0 : Hp) (ρ : Rho) (σ : L2.St) (H I : Hp) : Prop where
  len : σ.length = ρ.length
  val : ∀ (i : Nat) (d : D), ρ[i]? = some (some (.v d)) → ∃ v, σ[i]? = some (some v) ∧ Rep K sr.g1 I v d
  own : ∀ (i : Nat) (d : D), ρ[i]? = some (some (.o d)) → ∃ l, σ[i]? = some (some (.ref l)) ∧ H0 l = none ∧ l ≠ sr.g1 ∧ l ≠ sr.g2 ∧ I l = none ∧ Own K sr.g1 H I l d
  dis : ∀ (i j : Nat) (d e : D) (l m : Addr), i ≠ j → ρ[i]? = some (some (.o d)) → ρ[j]? = some (some (.o e)) → σ[i]? = some (some (.ref l)) → σ[j]? = some (some (.ref m)) → l ≠ m
theorem SR.ext {sr : Sr τ} {K : PySem.W.Frag} {H0 : Hp} {ρ : Rho} {σ : L2.St} {H I H' I' : Hp} (h : SR sr K H0 ρ σ H I) (x : Ext sr H I H' I') : SR sr K H0 ρ σ H' I' :=
  ⟨h.len, fun i d e => let ⟨v, a, b⟩ := h.val i d e; ⟨v, a, b.le x.im⟩, fun i d e => (by
    obtain ⟨l, a, b, n1, n2, c, o⟩ := h.own i d e
    obtain ⟨u, hu⟩ := o.some
    refine ⟨l, a, b, n1, n2, none_of fun ⟨z, hz⟩ => ?_, o.le (fun _ q => x.keep _ _ q n1 n2) x.im⟩
    rcases x.new l (by rw [hz]; simp) with k | k
    · exact k c
    · rw [hu] at k; cases k), h.dis⟩

/-- what is walked gives xs, while I' stands -/
structure ItOk (sr : Sr τ) (K : PySem.W.Frag) (J : It) (xs : List D) (I' : Hp) : Prop where
  stop : ∀ (H I : Hp) (t : τ) (i : Nat), HS sr H I t → Le I' I → xs.length ≤ i → J.stop i H
  go : ∀ (H I : Hp) (t : τ) (i : Nat), HS sr H I t → Le I' I → i < xs.length → J.go i H
  yld : ∀ (H I : Hp) (t : τ) (i : Nat) (d : D) (x : V) (H' : Hp), HS sr H I t → Le I' I → xs[i]? = some d → J.yld i H x H' → ∃ I2, HS sr H' I2 t ∧ Ext sr H I H' I2 ∧ Rep K sr.g1 I2 x d
end
end PyI

set_option Elab.async false
set_option linter.all false
set_option maxRecDepth 100000
set_option maxHeartbeats 4000000
/-! PyI: which text a term is, taken apart. -/
namespace PyI
open PySem PySem.Spec PyProof.Rows L2
section
variable {T : Nat → Option Str} {N : List Str} {sc : Scope} {e : Expr} {es : List Expr} {a b c : C}

theorem chk_var {i : Nat} (h : chk T N (.var i) sc [e] = true) : ∃ x p, e = .Name x p ∧ N[i]? = some x ∧ Vis sc x ∧ (x == ("__debug__" : Str)) = false ∧ (x == ("__classdict__" : Str)) = false := by
  cases e <;> first | exact absurd h Bool.false_ne_true | skip
  have h' : (decide (N[i]? = some _) && visB sc _ && !(_ == ("__debug__" : Str)) && !(_ == ("__classdict__" : Str))) = true := h
  simp only [Bool.and_eq_true, decide_eq_true_eq, Bool.not_eq_true'] at h'
  exact ⟨_, _, rfl, h'.1.1.1, vis_of h'.1.1.2, h'.1.2, h'.2⟩
theorem chk_const (h : chk T N a sc [e] = true) (ha : (∃ b, a = .bl b) ∨ a = .non ∨ (∃ i, a = .int i) ∨ ∃ x, a = .str x) : ∃ j p, (a = .non ∧ e = .Constant .none j p) ∨ (∃ b, a = .bl b ∧ e = .Constant (.bool b) j p) ∨ (∃ i, a = .int i ∧ e = .Constant (.int i) j p) ∨ ∃ x, a = .str x ∧ e = .Constant (.str x) j p := by
  rcases ha with ⟨b, rfl⟩ | rfl | ⟨i, rfl⟩ | ⟨x, rfl⟩ <;> cases e <;> first | exact absurd h Bool.false_ne_true | skip
  · rename_i v j p
    cases v <;> first | exact absurd h Bool.false_ne_true | skip
    have e' : b = _ := of_decide_eq_true h
    exact ⟨j, p, .inr (.inl ⟨b, rfl, by rw [e']⟩)⟩
  · rename_i v j p
    cases v <;> first | exact absurd h Bool.false_ne_true | skip
    exact ⟨j, p, .inl ⟨rfl, rfl⟩⟩
  · rename_i v j p
    cases v <;> first | exact absurd h Bool.false_ne_true | skip
    have e' : i = _ := of_decide_eq_true h
    exact ⟨j, p, .inr (.inr (.inl ⟨i, rfl, by rw [e']⟩))⟩
  · rename_i v j p
    cases v <;> first | exact absurd h Bool.false_ne_true | skip
    have e' : x = _ := of_decide_eq_true h
    exact ⟨j, p, .inr (.inr (.inr ⟨x, rfl, by rw [e']⟩))⟩
theorem chk_tup (h : chk T N (.tup a) sc [e] = true) : ∃ xs k p, e = .Tuple xs k p ∧ isL a = true ∧ chk T N a sc xs = true := by
  cases e <;> first | exact absurd h Bool.false_ne_true | skip
  have h' : (isL a && chk T N a sc _) = true := h
  rw [Bool.and_eq_true] at h'
  exact ⟨_, _, _, rfl, h'⟩
theorem chk_lst (h : chk T N (.lst a) sc [e] = true) : ∃ xs p, e = .List xs p ∧ isL a = true ∧ chk T N a sc xs = true := by
  cases e <;> first | exact absurd h Bool.false_ne_true | skip
  have h' : (isL a && chk T N a sc _) = true := h
  rw [Bool.and_eq_true] at h'
  exact ⟨_, _, rfl, h'⟩
theorem chk_dnil (h : chk T N .dnil sc [e] = true) : ∃ p, e = .Dict [] [] p := by
  cases e <;> first | exact absurd h Bool.false_ne_true | skip
  rename_i ks vs p
  cases ks <;> first | exact absurd h Bool.false_ne_true | skip
  cases vs <;> first | exact absurd h Bool.false_ne_true | skip
  exact ⟨_, rfl⟩
theorem chk_bin {op : BOp} (h : chk T N (.bin op a b) sc [e] = true) : ∃ x y p, e = .BinOp x (bop op) y p ∧ isIt a = false ∧ isIt b = false ∧ chk T N a sc [x] = true ∧ chk T N b sc [y] = true := by
  cases e <;> first | exact absurd h Bool.false_ne_true | skip
  have h' : (decide (_ = bop op) && !isIt a && !isIt b && chk T N a sc [_] && chk T N b sc [_]) = true := h
  simp only [Bool.and_eq_true, decide_eq_true_eq, Bool.not_eq_true'] at h'
  obtain ⟨⟨⟨⟨h1, h2⟩, h3⟩, h4⟩, h5⟩ := h'
  subst h1
  exact ⟨_, _, _, rfl, h2, h3, h4, h5⟩
theorem chk_neg (h : chk T N (.neg a) sc [e] = true) : ∃ x p, e = .UnaryOp .USub x p ∧ isIt a = false ∧ chk T N a sc [x] = true := by
  cases e <;> first | exact absurd h Bool.false_ne_true | skip
  rename_i op x p
  cases op <;> first | exact absurd h Bool.false_ne_true | skip
  have h' : (!isIt a && chk T N a sc [x]) = true := h
  simp only [Bool.and_eq_true, Bool.not_eq_true'] at h'
  exact ⟨_, _, rfl, h'⟩
theorem chk_nt (h : chk T N (.nt a) sc [e] = true) : ∃ x p, e = .UnaryOp .Not x p ∧ isIt a = false ∧ chk T N a sc [x] = true := by
  cases e <;> first | exact absurd h Bool.false_ne_true | skip
  rename_i op x p
  cases op <;> first | exact absurd h Bool.false_ne_true | skip
  have h' : (!isIt a && chk T N a sc [x]) = true := h
  simp only [Bool.and_eq_true, Bool.not_eq_true'] at h'
  exact ⟨_, _, rfl, h'⟩
/-- the rest of an and, or: one more, or the like of it -/
def RestB (op : PySem.BoolOp) (T : Nat → Option Str) (N : List Str) (sc : Scope) (b : C) (y : Expr) (rest : List Expr) (p : Pos) : Prop :=
  (rest = [] ∧ chk T N b sc [y] = true) ∨ chk T N b sc [.BoolOp op (y :: rest) p] = true
theorem chk_and (h : chk T N (.and_ a b) sc [e] = true) : ∃ x y rest p, e = .BoolOp .And (x :: y :: rest) p ∧ isIt a = false ∧ isIt b = false ∧ chk T N a sc [x] = true ∧ RestB .And T N sc b y rest p := by
  cases e <;> first | exact absurd h Bool.false_ne_true | skip
  rename_i op l p
  cases op <;> first | exact absurd h Bool.false_ne_true | skip
  cases l <;> first | exact absurd h Bool.false_ne_true | skip
  rename_i x l
  cases l <;> first | exact absurd h Bool.false_ne_true | skip
  rename_i y rest
  cases rest with
  | nil =>
    have h' : (!isIt a && !isIt b && chk T N a sc [x] && chk T N b sc [y]) = true := h
    simp only [Bool.and_eq_true, Bool.not_eq_true'] at h'
    exact ⟨_, _, _, _, rfl, h'.1.1.1, h'.1.1.2, h'.1.2, .inl ⟨rfl, h'.2⟩⟩
  | cons z zs =>
    have h' : (!isIt a && !isIt b && chk T N a sc [x] && chk T N b sc [.BoolOp .And (y :: z :: zs) p]) = true := h
    simp only [Bool.and_eq_true, Bool.not_eq_true'] at h'
    exact ⟨_, _, _, _, rfl, h'.1.1.1, h'.1.1.2, h'.1.2, .inr h'.2⟩
theorem chk_or (h : chk T N (.or_ a b) sc [e] = true) : ∃ x y rest p, e = .BoolOp .Or (x :: y :: rest) p ∧ isIt a = false ∧ isIt b = false ∧ chk T N a sc [x] = true ∧ RestB .Or T N sc b y rest p := by
  cases e <;> first | exact absurd h Bool.false_ne_true | skip
  rename_i op l p
  cases op <;> first | exact absurd h Bool.false_ne_true | skip
  cases l <;> first | exact absurd h Bool.false_ne_true | skip
  rename_i x l
  cases l <;> first | exact absurd h Bool.false_ne_true | skip
  rename_i y rest
  cases rest with
  | nil =>
    have h' : (!isIt a && !isIt b && chk T N a sc [x] && chk T N b sc [y]) = true := h
    simp only [Bool.and_eq_true, Bool.not_eq_true'] at h'
    exact ⟨_, _, _, _, rfl, h'.1.1.1, h'.1.1.2, h'.1.2, .inl ⟨rfl, h'.2⟩⟩
  | cons z zs =>
    have h' : (!isIt a && !isIt b && chk T N a sc [x] && chk T N b sc [.BoolOp .Or (y :: z :: zs) p]) = true := h
    simp only [Bool.and_eq_true, Bool.not_eq_true'] at h'
    exact ⟨_, _, _, _, rfl, h'.1.1.1, h'.1.1.2, h'.1.2, .inr h'.2⟩
theorem chk_cmp {op : COp} (h : chk T N (.cmp op a b) sc [e] = true) : ∃ x y p, e = .Compare x [cop op] [y] p ∧ behindInMarks (cop op) y = false ∧ isIt a = false ∧ isIt b = false ∧ chk T N a sc [x] = true ∧ chk T N b sc [y] = true := by
  cases e <;> first | exact absurd h Bool.false_ne_true | skip
  rename_i x ops ys p
  cases ops <;> first | exact absurd h Bool.false_ne_true | skip
  rename_i o ops
  cases ops <;> first | exact absurd h Bool.false_ne_true | skip
  cases ys <;> first | exact absurd h Bool.false_ne_true | skip
  rename_i y ys
  cases ys <;> first | exact absurd h Bool.false_ne_true | skip
  have h' : (decide (o = cop op) && !behindInMarks (cop op) y && !isIt a && !isIt b && chk T N a sc [x] && chk T N b sc [y]) = true := h
  simp only [Bool.and_eq_true, decide_eq_true_eq, Bool.not_eq_true'] at h'
  obtain ⟨⟨⟨⟨⟨h1, h2⟩, h3⟩, h4⟩, h5⟩, h6⟩ := h'
  subst h1
  exact ⟨_, _, _, rfl, h2, h3, h4, h5, h6⟩
theorem chk_isc {no : Bool} {k : Option Bool} (h : chk T N (.isc no a k) sc [e] = true) : ∃ x j p q, e = .Compare x [if no then .IsNot else .Is] [.Constant (lit k) j p] q ∧ isIt a = false ∧ chk T N a sc [x] = true := by
  cases e <;> first | exact absurd h Bool.false_ne_true | skip
  rename_i x ops ys p
  cases ops <;> first | exact absurd h Bool.false_ne_true | skip
  rename_i o ops
  cases ops <;> first | exact absurd h Bool.false_ne_true | skip
  cases ys <;> first | exact absurd h Bool.false_ne_true | skip
  rename_i y ys
  cases y <;> first | exact absurd h Bool.false_ne_true | skip
  cases ys <;> first | exact absurd h Bool.false_ne_true | skip
  rename_i k' j q
  have h' : (decide (o = if no then .IsNot else .Is) && decide (k' = lit k) && !isIt a && chk T N a sc [x]) = true := h
  simp only [Bool.and_eq_true, decide_eq_true_eq, Bool.not_eq_true'] at h'
  obtain ⟨⟨⟨h1, h2⟩, h3⟩, h4⟩ := h'
  subst h1 h2
  exact ⟨_, _, _, _, rfl, h3, h4⟩
theorem chk_ife (h : chk T N (.ife c a b) sc [e] = true) : ∃ z x y p, e = .IfExp z x y p ∧ isIt c = false ∧ isIt a = false ∧ isIt b = false ∧ chk T N c sc [z] = true ∧ chk T N a sc [x] = true ∧ chk T N b sc [y] = true := by
  cases e <;> first | exact absurd h Bool.false_ne_true | skip
  rename_i z x y p
  have h' : (!isIt c && !isIt a && !isIt b && chk T N c sc [z] && chk T N a sc [x] && chk T N b sc [y]) = true := h
  simp only [Bool.and_eq_true, Bool.not_eq_true'] at h'
  obtain ⟨⟨⟨⟨⟨h1, h2⟩, h3⟩, h4⟩, h5⟩, h6⟩ := h'
  exact ⟨_, _, _, _, rfl, h1, h2, h3, h4, h5, h6⟩
theorem chk_call {f : Nat} (h : chk T N (.call f a) sc [e] = true) : ∃ x p y ys q, e = .Call (.Name x p) (y :: ys) [] q ∧ x ≠ "math.gcd" ∧ T f = some x ∧ sc.names.lookup x = some .globalImplicit ∧ (x == ("__debug__" : Str)) = false ∧ isP a = true ∧ isL a = true ∧ chk T N a sc (y :: ys) = true := by
  cases e <;> first | exact absurd h Bool.false_ne_true | skip
  rename_i g es ks q
  cases g <;> first | exact absurd h Bool.false_ne_true | skip
  cases es <;> first | exact absurd h Bool.false_ne_true | skip
  cases ks <;> first | exact absurd h Bool.false_ne_true | skip
  rename_i x p y ys
  have h' : (decide (T f = some x) && !decide (x = "math.gcd") && glB sc x && !(x == ("__debug__" : Str)) && isP a && isL a && chk T N a sc (y :: ys)) = true := h
  simp only [Bool.and_eq_true, decide_eq_true_eq, Bool.not_eq_true', decide_eq_false_iff_not] at h'
  obtain ⟨⟨⟨⟨⟨⟨h1, h0⟩, h2⟩, h3⟩, hp⟩, h4⟩, h5⟩ := h'
  exact ⟨_, _, _, _, _, rfl, h0, h1, gl_of h2, h3, hp, h4, h5⟩
/-- a call of a name with one argument, two -/
theorem call1 (h : chk T N c sc [e] = true) (hf : ∀ e, (match e with | .Call (.Name _ _) [_] [] _ => false | _ => true) = true → chk T N c sc [e] = false) : ∃ x p y q, e = .Call (.Name x p) [y] [] q := by
  have k := hf e
  rw [h] at k
  cases e <;> first | exact absurd (k rfl) (by decide) | skip
  rename_i g es ks q
  cases g <;> first | exact absurd (k rfl) (by decide) | skip
  cases es <;> first | exact absurd (k rfl) (by decide) | skip
  rename_i y ys
  cases ys <;> first | exact absurd (k rfl) (by decide) | skip
  cases ks <;> first | exact absurd (k rfl) (by decide) | skip
  exact ⟨_, _, _, _, rfl⟩
theorem chk_b1 {f : B1} (h : chk T N (.b1 f a) sc [e] = true) : ∃ p y q, e = .Call (.Name (b1n f) p) [y] [] q ∧ sc.names.lookup (b1n f) = some .globalImplicit ∧ nonStar y = true ∧ isIt a = false ∧ chk T N a sc [y] = true := by
  cases e <;> first | exact absurd h Bool.false_ne_true | skip
  rename_i g es ks q
  cases g <;> first | exact absurd h Bool.false_ne_true | skip
  cases es <;> first | exact absurd h Bool.false_ne_true | skip
  rename_i x p y ys
  cases ys <;> first | exact absurd h Bool.false_ne_true | skip
  cases ks <;> first | exact absurd h Bool.false_ne_true | skip
  have h' : (decide (x = b1n f) && glB sc x && nonStar y && !isIt a && chk T N a sc [y]) = true := h
  simp only [Bool.and_eq_true, decide_eq_true_eq, Bool.not_eq_true'] at h'
  obtain ⟨⟨⟨⟨h1, h2⟩, h3⟩, h4⟩, h5⟩ := h'
  subst h1
  exact ⟨_, _, _, rfl, gl_of h2, h3, h4, h5⟩
theorem chk_one {nm : Str} {c : C} (h : chk T N c sc [e] = true) (hc : (c = .rng1 a ∧ nm = "range") ∨ (c = .enm a ∧ nm = "enumerate")) : ∃ p y q, e = .Call (.Name nm p) [y] [] q ∧ sc.names.lookup nm = some .globalImplicit ∧ nonStar y = true ∧ isIt a = false ∧ chk T N a sc [y] = true := by
  rcases hc with ⟨rfl, rfl⟩ | ⟨rfl, rfl⟩ <;> (cases e <;> first | exact absurd h Bool.false_ne_true | skip) <;> (
    rename_i g es ks q
    cases g <;> first | exact absurd h Bool.false_ne_true | skip
    cases es <;> first | exact absurd h Bool.false_ne_true | skip
    rename_i x p y ys
    cases ys <;> first | exact absurd h Bool.false_ne_true | skip
    cases ks <;> first | exact absurd h Bool.false_ne_true | skip
    have h' : (decide (x = _) && glB sc x && nonStar y && !isIt a && chk T N a sc [y]) = true := h
    simp only [Bool.and_eq_true, decide_eq_true_eq, Bool.not_eq_true'] at h'
    obtain ⟨⟨⟨⟨h1, h2⟩, h3⟩, h4⟩, h5⟩ := h'
    subst h1
    exact ⟨_, _, _, rfl, gl_of h2, h3, h4, h5⟩)
theorem chk_two {nm : Str} {c : C} (h : chk T N c sc [e] = true) (hc : (c = .pick a b ∧ nm = "_law_pick") ∨ (c = .rng2 a b ∧ nm = "range") ∨ (c = .zp a b ∧ nm = "zip")) :
    ∃ p y z q, e = .Call (.Name nm p) [y, z] [] q ∧ sc.names.lookup nm = some .globalImplicit ∧ nonStar y = true ∧ nonStar z = true ∧ isIt a = false ∧ isIt b = false ∧ chk T N a sc [y] = true ∧ chk T N b sc [z] = true := by
  rcases hc with ⟨rfl, rfl⟩ | ⟨rfl, rfl⟩ | ⟨rfl, rfl⟩ <;> (cases e <;> first | exact absurd h Bool.false_ne_true | skip) <;> (
    rename_i g es ks q
    cases g <;> first | exact absurd h Bool.false_ne_true | skip
    cases es <;> first | exact absurd h Bool.false_ne_true | skip
    rename_i x p y ys
    cases ys <;> first | exact absurd h Bool.false_ne_true | skip
    rename_i z zs
    cases zs <;> first | exact absurd h Bool.false_ne_true | skip
    cases ks <;> first | exact absurd h Bool.false_ne_true | skip
    have h' : (decide (x = _) && glB sc x && nonStar y && nonStar z && !isIt a && !isIt b && chk T N a sc [y] && chk T N b sc [z]) = true := h
    simp only [Bool.and_eq_true, decide_eq_true_eq, Bool.not_eq_true'] at h'
    obtain ⟨⟨⟨⟨⟨⟨⟨h1, h2⟩, h3⟩, h4⟩, h5⟩, h6⟩, h7⟩, h8⟩ := h'
    subst h1
    exact ⟨_, _, _, _, rfl, gl_of h2, h3, h4, h5, h6, h7, h8⟩)
theorem chk_b2 {f : B2} (h : chk T N (.b2 f a b) sc [e] = true) :
    ∃ p y z q, e = .Call (.Name (b2n f) p) [y, z] [] q ∧ b2T T f = true ∧ sc.names.lookup (b2n f) = some .globalImplicit ∧ nonStar y = true ∧ nonStar z = true ∧ isIt a = false ∧ isIt b = false ∧ chk T N a sc [y] = true ∧ chk T N b sc [z] = true := by
  cases e <;> first | exact absurd h Bool.false_ne_true | skip
  rename_i g es ks q
  cases g <;> first | exact absurd h Bool.false_ne_true | skip
  cases es <;> first | exact absurd h Bool.false_ne_true | skip
  rename_i x p y ys
  cases ys <;> first | exact absurd h Bool.false_ne_true | skip
  rename_i z zs
  cases zs <;> first | exact absurd h Bool.false_ne_true | skip
  cases ks <;> first | exact absurd h Bool.false_ne_true | skip
  have h' : (b2T T f && decide (x = b2n f) && glB sc x && nonStar y && nonStar z && !isIt a && !isIt b && chk T N a sc [y] && chk T N b sc [z]) = true := h
  simp only [Bool.and_eq_true, decide_eq_true_eq, Bool.not_eq_true'] at h'
  obtain ⟨⟨⟨⟨⟨⟨⟨⟨h0, h1⟩, h2⟩, h3⟩, h4⟩, h5⟩, h6⟩, h7⟩, h8⟩ := h'
  subst h1
  exact ⟨_, _, _, _, rfl, h0, gl_of h2, h3, h4, h5, h6, h7, h8⟩
theorem chk_get (h : chk T N (.get a b c) sc [e] = true) : ∃ x px ap y z cp, e = .Call (.Attribute (.Name x px) "get" ap) [y, z] [] cp ∧ (ap.endLine == cp.line) = true ∧ nonStar y = true ∧ nonStar z = true ∧ isIt a = false ∧ isIt b = false ∧ isIt c = false ∧ chk T N a sc [.Name x px] = true ∧ chk T N b sc [y] = true ∧ chk T N c sc [z] = true := by
  cases e <;> first | exact absurd h Bool.false_ne_true | skip
  rename_i g es ks q
  cases g <;> first | exact absurd h Bool.false_ne_true | skip
  rename_i x m ap
  cases x <;> first | exact absurd h Bool.false_ne_true | skip
  rename_i x px
  cases es <;> first | exact absurd h Bool.false_ne_true | skip
  rename_i y ys
  cases ys <;> first | exact absurd h Bool.false_ne_true | skip
  rename_i z zs
  cases zs <;> first | exact absurd h Bool.false_ne_true | skip
  cases ks <;> first | exact absurd h Bool.false_ne_true | skip
  have h' : (decide (m = "get") && ap.endLine == q.line && nonStar y && nonStar z && !isIt a && !isIt b && !isIt c && chk T N a sc [.Name x px] && chk T N b sc [y] && chk T N c sc [z]) = true := h
  simp only [Bool.and_eq_true, decide_eq_true_eq, Bool.not_eq_true'] at h'
  obtain ⟨⟨⟨⟨⟨⟨⟨⟨⟨h0, h1⟩, h2⟩, h3⟩, h4⟩, h5⟩, h6⟩, h7⟩, h8⟩, h9⟩ := h'
  subst h0
  exact ⟨_, _, _, _, _, _, rfl, h1, h2, h3, h4, h5, h6, h7, h8, h9⟩
theorem chk_isin {ty : Ty} (h : chk T N (.isin a ty) sc [e] = true) : ∃ p y p' q, e = .Call (.Name "isinstance" p) [y, .Name (tyn ty) p'] [] q ∧ sc.names.lookup ("isinstance" : Str) = some .globalImplicit ∧ sc.names.lookup (tyn ty) = some .globalImplicit ∧ nonStar y = true ∧ isIt a = false ∧ chk T N a sc [y] = true := by
  cases e <;> first | exact absurd h Bool.false_ne_true | skip
  rename_i g es ks q
  cases g <;> first | exact absurd h Bool.false_ne_true | skip
  cases es <;> first | exact absurd h Bool.false_ne_true | skip
  rename_i x p y ys
  cases ys <;> first | exact absurd h Bool.false_ne_true | skip
  rename_i z zs
  cases z <;> first | exact absurd h Bool.false_ne_true | skip
  cases zs <;> first | exact absurd h Bool.false_ne_true | skip
  cases ks <;> first | exact absurd h Bool.false_ne_true | skip
  rename_i z p'
  have h' : (decide (x = "isinstance") && decide (z = tyn ty) && glB sc x && glB sc z && nonStar y && !isIt a && chk T N a sc [y]) = true := h
  simp only [Bool.and_eq_true, decide_eq_true_eq, Bool.not_eq_true'] at h'
  obtain ⟨⟨⟨⟨⟨⟨h1, h2⟩, h3⟩, h4⟩, h5⟩, h6⟩, h7⟩ := h'
  subst h1 h2
  exact ⟨_, _, _, _, rfl, gl_of h3, gl_of h4, h5, h6, h7⟩
theorem chk_ix (h : chk T N (.ix a b) sc [e] = true) : ∃ x y p, e = .Subscript x y p ∧ nonSlice y = true ∧ isIt a = false ∧ isIt b = false ∧ chk T N a sc [x] = true ∧ chk T N b sc [y] = true := by
  cases e <;> first | exact absurd h Bool.false_ne_true | skip
  rename_i x y p
  have h' : (nonSlice y && !isIt a && !isIt b && chk T N a sc [x] && chk T N b sc [y]) = true := h
  simp only [Bool.and_eq_true, decide_eq_true_eq, Bool.not_eq_true'] at h'
  exact ⟨_, _, _, rfl, h'.1.1.1.1, h'.1.1.1.2, h'.1.1.2, h'.1.2, h'.2⟩
def PartC (T : Nat → Option Str) (N : List Str) (sc : Scope) (c : C) : Option Expr → Prop
  | none => c = .non
  | some e => chk T N c sc [e] = true
theorem chk_slc (h : chk T N (.slc a b c) sc [e] = true) : ∃ x l u p q, e = .Subscript x (.Slice l u none p) q ∧ isIt a = false ∧ isIt b = false ∧ isIt c = false ∧ chk T N a sc [x] = true ∧ PartC T N sc b l ∧ PartC T N sc c u := by
  cases e <;> first | exact absurd h Bool.false_ne_true | skip
  rename_i x y p
  cases y <;> first | exact absurd h Bool.false_ne_true | skip
  rename_i l u st q
  cases st <;> first | exact absurd h Bool.false_ne_true | skip
  have h' : (!isIt a && !isIt b && !isIt c && chk T N a sc [x] && partB l (isNon b) (fun l => chk T N b sc [l]) && partB u (isNon c) (fun h => chk T N c sc [h])) = true := h
  simp only [Bool.and_eq_true, Bool.not_eq_true'] at h'
  refine ⟨_, _, _, _, _, rfl, h'.1.1.1.1.1, h'.1.1.1.1.2, h'.1.1.1.2, h'.1.1.2, ?_, ?_⟩
  · cases l with
    | some l => exact h'.1.2
    | none =>
      have k : isNon b = true := h'.1.2
      cases b <;> first | rfl | cases k
  · cases u with
    | some l => exact h'.2
    | none =>
      have k : isNon c = true := h'.2
      cases c <;> first | rfl | cases k
theorem chk_comp {own : List Nat} {elt tg it test : C} (h : chk T N (.comp own elt tg it test) sc [e] = true) : ∃ x t i ifs scope p, e = .ListComp x [⟨t, i, ifs, 0⟩] scope p ∧ isIt elt = false ∧ isIt test = false ∧ isL it = false ∧ (prs it = true → isTup t = true) ∧ chk T N it sc [i] = true ∧
    BlkOk N sc scope (ownOf N own) ∧ (tgIn own tg = true ∧ isL tg = false ∧ chkT N scope tg [t] = true) ∧ ((ifs = [] ∧ test = .bl true) ∨ ∃ c, ifs = [c] ∧ chk T N test (relS scope sc) [c] = true) ∧ chk T N elt (relS scope sc) [x] = true := by
  cases e <;> first | exact absurd h Bool.false_ne_true | skip
  rename_i x gs scope p
  cases gs <;> first | exact absurd h Bool.false_ne_true | skip
  rename_i g gs
  obtain ⟨t, i, ifs, k⟩ := g
  cases k <;> first | exact absurd h Bool.false_ne_true | skip
  rename_i k
  cases k <;> first | exact absurd h Bool.false_ne_true | skip
  cases gs <;> first | exact absurd h Bool.false_ne_true | skip
  have h' : (!isIt elt && !isIt test && !isL it && (!prs it || isTup t) && chk T N it sc [i] && blkC N sc scope (ownOf N own) && (tgIn own tg && !isL tg && chkT N scope tg [t]) &&
      ifsB ifs (isTru test) (fun c => chk T N test (relS scope sc) [c]) && chk T N elt (relS scope sc) [x]) = true := h
  simp only [Bool.and_eq_true, Bool.not_eq_true', Bool.or_eq_true] at h'
  obtain ⟨⟨⟨⟨⟨⟨⟨⟨h1, h2⟩, h3⟩, h4⟩, h5⟩, h6⟩, h7⟩, h8⟩, h9⟩ := h'
  refine ⟨x, t, i, ifs, scope, p, rfl, h1, h2, h3, fun z => ?_, h5, blkOk_by h6, ⟨h7.1.1, h7.1.2, h7.2⟩, ?_, h9⟩
  · rcases h4 with k | k
    · rw [z] at k; cases k
    · exact k
  · cases ifs with
    | nil =>
      have k : isTru test = true := h8
      cases test <;> first | (cases k; done) | skip
      have k' : _ = true := k
      subst k'
      exact .inl ⟨rfl, rfl⟩
    | cons c cs =>
      cases cs with
      | nil => exact .inr ⟨c, rfl, h8⟩
      | cons _ _ => exact absurd h8 Bool.false_ne_true
theorem chk_nil (h : chk T N .nil sc es = true) : es = [] := by
  cases es with
  | nil => rfl
  | cons e es => exact absurd h Bool.false_ne_true
theorem chk_cons (h : chk T N (.cons a b) sc es = true) : ∃ x xs, es = x :: xs ∧ nonStar x = true ∧ isIt a = false ∧ chk T N a sc [x] = true ∧ isL b = true ∧ chk T N b sc xs = true := by
  cases es with
  | nil => exact absurd h Bool.false_ne_true
  | cons x xs =>
    have h' : (nonStar x && !isIt a && chk T N a sc [x] && isL b && chk T N b sc xs) = true := h
    simp only [Bool.and_eq_true, Bool.not_eq_true'] at h'
    exact ⟨_, _, rfl, h'.1.1.1.1, h'.1.1.1.2, h'.1.1.2, h'.1.2, h'.2⟩
theorem chk_scons (h : chk T N (.scons a b) sc es = true) : ∃ x p xs, es = .Starred x p :: xs ∧ isIt a = false ∧ chk T N a sc [x] = true ∧ isL b = true ∧ chk T N b sc xs = true := by
  cases es with
  | nil => exact absurd h Bool.false_ne_true
  | cons x xs =>
    cases x <;> first | exact absurd h Bool.false_ne_true | skip
    rename_i x p
    have h' : (!isIt a && chk T N a sc [x] && isL b && chk T N b sc xs) = true := h
    simp only [Bool.and_eq_true, Bool.not_eq_true'] at h'
    exact ⟨_, _, _, rfl, h'.1.1.1, h'.1.1.2, h'.1.2, h'.2⟩
theorem chk_rev (h : chk T N (.rev a) sc [e] = true) : ∃ x k p1 p2 p3 p, e = .Subscript x (.Slice none none (some (.UnaryOp .USub (.Constant (.int 1) k p1) p2)) p3) p ∧ isIt a = false ∧ chk T N a sc [x] = true := by
  cases e <;> first | exact absurd h Bool.false_ne_true | skip
  rename_i x y p
  cases y <;> first | exact absurd h Bool.false_ne_true | skip
  rename_i l u st q
  cases l <;> first | exact absurd h Bool.false_ne_true | skip
  cases u <;> first | exact absurd h Bool.false_ne_true | skip
  cases st <;> first | exact absurd h Bool.false_ne_true | skip
  rename_i st
  cases st <;> first | exact absurd h Bool.false_ne_true | skip
  rename_i o z p2
  cases o <;> first | exact absurd h Bool.false_ne_true | skip
  cases z <;> first | exact absurd h Bool.false_ne_true | skip
  rename_i c k p1
  cases c <;> first | exact absurd h Bool.false_ne_true | skip
  rename_i o
  have h' : (decide (o = 1) && !isIt a && chk T N a sc [x]) = true := h
  simp only [Bool.and_eq_true, Bool.not_eq_true', decide_eq_true_eq] at h'
  obtain ⟨⟨rfl, h2⟩, h3⟩ := h'
  exact ⟨_, _, _, _, _, _, rfl, h2, h3⟩
theorem star_cons {X : Cx} {x : Expr} {xs : List Expr} (h : nonStar x = true) : starEach (x :: xs) X.env = (false, eval x X.env) :: starEach xs X.env := by
  cases x <;> first | rfl | cases h
theorem star_plain {X : Cx} : ∀ {c : C} {xs : List Expr} {pos : Pos}, isP c = true → chk T N c sc xs = true → (backTo pos (starEach xs X.env)).any (·.1) = false
  | .nil, _, _, _, h => by rw [chk_nil h]; rfl
  | .cons a b, _, pos, hp, h => by
    obtain ⟨x, xs, rfl, h1, h2, h3, h4, h5⟩ := chk_cons h
    have ih := star_plain (X := X) (pos := pos) (show isP b = true from hp) h5
    rw [star_cons h1]
    show (backTo pos ((false, eval x X.env) :: starEach xs X.env)).any (·.1) = false
    simp only [backTo, List.map_cons, List.any_cons, Bool.false_or] at ih ⊢
    exact ih
end
end PyI

set_option Elab.async false
set_option linter.all false
set_option maxRecDepth 100000
set_option maxHeartbeats 4000000
/-! PyI: enumerate over a tuple. -/
namespace PyI
open PySem PySem.Spec PyProof.Rows L2

theorem meets_enum1 {v : Value} {o : Obj} {G : Heap → Prop} (B : Begins v o G) :
    Meets (Builtin.«enumerate.__new__» ⟨[.type "enumerate", v], []⟩) (fun _ R s => G s.heap ∧
      R (.ok (.ret (.ref (s.heap.push o).objs.size))) { s with heap := (s.heap.push o).push { cls := .type "enumerate", data := .fields #[.none, .bool false, .ref s.heap.objs.size, rawInt 0, .none, .none] } }) :=
  .of_wp fun prog w A R s h => by
    obtain ⟨hp, g, d, tk, os⟩ := s
    obtain ⟨h1, h⟩ := h
    have hsub := sub_enumerate
    have q1 : ∀ {A' : Around} {E : Value → Shared → Prop} {Q : Value → Shared → Prop}, Q (.ref hp.objs.size) ⟨hp.push o, g, d, tk, os⟩ → wpAny (model prog w) A' (pyIter v) Q E ⟨hp, g, d, tk, os⟩ :=
      fun q => B.iter prog w _ _ ⟨hp, g, d, tk, os⟩ _ h1 q
    wp_walk using q1
    refine wpAny_stack_any fun st => wpAny_pure ?_
    split
    · rename_i c _ _ _ _ _
      cases (c == Value.type "enumerate") <;> (wp_walk using q1; exact ⟨_, rfl, h⟩)
    · wp_walk using q1
      exact ⟨_, rfl, h⟩
section
variable {prog : Program} {w : World} {A : Around} {E : Value → Shared → Prop} {s : Shared}
theorem call_enum1 {v : Value} {o : Obj} {G : Heap → Prop} {Q : Value → Shared → Prop} (B : Begins v o G) (hG : G s.heap)
    (h : ∀ h', IsEnum h' (s.heap.objs.size + 1) s.heap.objs.size 0 .none → h'.get? s.heap.objs.size = some o →
      (∀ b x, s.heap.get? b = some x → h'.get? b = some x) → Q (.ref (s.heap.objs.size + 1)) { s with heap := h' }) :
    wpAny (model prog w) A (call (.type "enumerate") [v]) Q E s := by
  refine callType_new F.called_enumerate (by decide) (F.typeCall_enumerate_1 _) (F.newCall_enumerate_1 _) (fun obj => F.args_object_init_2 obj _) F.entry_enumerate_new (meets_enum1 B) ⟨hG, ?_⟩
  have hz : (s.heap.push o).objs.size = s.heap.objs.size + 1 := Heap.size_push ..
  show _ ∧ _
  rw [hz]
  have en : IsEnum ((s.heap.push o).push { cls := .type "enumerate", data := .fields #[.none, .bool false, .ref s.heap.objs.size, rawInt 0, .none, .none] }) (s.heap.objs.size + 1) s.heap.objs.size 0 .none := by
    have k := Heap.get?_push_size (s.heap.push o) (o := { cls := .type "enumerate", data := .fields #[.none, .bool false, .ref s.heap.objs.size, rawInt 0, .none, .none] }) rfl
    rw [hz] at k; exact k
  exact ⟨⟨_, en, rfl⟩, h _ en (Heap.get?_push_of_some _ (Heap.get?_push_size _ B.free)) fun b x e => Heap.get?_push_of_some _ (Heap.get?_push_of_some _ e)⟩
end

/-- the tuple at a, its items numbered, in new pairs -/
def ItT (K : PySem.W.Frag) (a : Addr) : It :=
  ⟨fun i H => ∃ (xs : List V) (x : V), SqT K H a xs ∧ xs[i]? = some x,
   fun i H v H' => ∃ p x, v = .ref p ∧ H p = none ∧ H' = upd H p (.tup [.int (i : Nat), x]) ∧ ∀ xs, SqT K H a xs → xs[i]? = some x,
   fun i H => ∃ xs : List V, SqT K H a xs ∧ xs.length ≤ i⟩
theorem turn_enumT {P : Program} {w : World} {K : PySem.W.Frag} {elts : List Expr} {kk : Nat} {tpos : Pos} (a e it : Addr) (hai : a ≠ it) :
    Turn P w K (.Tuple elts kk tpos) (ItT K a) [e, it] e (fun i h => (∃ old, IsEnum h e it ((i : Nat) : Int) old) ∧ h.IsTupleIter it a i ∧ e ≠ it ∧ a ≠ e) where
  mem := List.mem_cons_self
  obj := fun i h st b hb => by
    obtain ⟨⟨old, he⟩, ⟨o, ho, hc, hd⟩, _⟩ := st
    rcases List.mem_cons.mp hb with z | hb
    · rw [z]
      exact ⟨_, he, fun v q => nomatch q⟩
    · have z : b = it := List.mem_singleton.mp hb
      exact ⟨o, by rw [z]; exact ho, fun v q => by rw [hd] at q; cases q⟩
  keep := fun i h h' st k =>
    let ⟨⟨old, he⟩, hi, hne⟩ := st
    ⟨⟨old, k e List.mem_cons_self _ he⟩, hi.at fun o q => k it (by simp) o q, hne⟩
  item := by
    intro X hP hw hK hc i pins s σ H E J hf st hg
    subst hP hw hK
    obtain ⟨⟨old, he⟩, hit, hne, hae⟩ := st
    obtain ⟨xs, x, hq, hx⟩ := hg
    obtain ⟨its, rv, p, hz⟩ := J.tuple hq
    have pT : s.heap.IsTuple a its.toArray := p
    have hel : e < s.heap.objs.size := Heap.lt_size he
    have hil : it < s.heap.objs.size := by obtain ⟨_, q, _⟩ := hit; exact Heap.lt_size q
    have lt : i < its.toArray.size := by
      have k := (List.getElem?_eq_some_iff.mp hx).1
      rw [rv.length] at k
      simpa using k
    have D := Draws.tuple (prog := X.prog) (w := X.w) (A := X.A.in1) (J.ok.hd hc) it a hai its.toArray
    refine wpAny_pyNext_enum_itemC D he ⟨hit, pT⟩ lt hne (by simp [hne, hae.symm]) fun u h' tk hu ho hit' hT hsz hk => ?_
    have ru : RelV x u := by
      obtain ⟨u', hu', r⟩ := rv.get hx
      have hu2 : its[i]? = some u := by simpa using hu
      rw [hu2] at hu'; cases hu'; exact r
    refine ⟨_, rfl, wpAny_letOwnedTupleGo_enum (s := { s with heap := h', toks := tk + 1 }) ho fun h'' he' sb => ?_⟩
    have hT2 : h''.get? s.heap.objs.size = some { cls := .type "tuple", data := .seq #[.int i tk, u] } := (sb.2 _ (Nat.ne_of_gt hel)).trans hT
    have new : ObjOk X.prog X.w (upd H s.heap.objs.size (.tup [.int (i : Nat), x])) h'' s.heap.objs.size (.tup [.int (i : Nat), x]) :=
      ⟨by show 2 ≤ sizeLine; decide, [.int i tk, u], .cons ⟨_, rfl⟩ (.cons ru .nil), ⟨_, hT2, rfl, _, rfl⟩⟩
    have J1 : Inv X pins σ (upd H s.heap.objs.size (.tup [.int (i : Nat), x])) { s with heap := h'', toks := tk + 1 } :=
      J.turnedNew (ch := [e, it]) (fun b ob hb q => (sb.2 b fun z => hb (by simp [z])).trans (hk b ob (fun z => hb (by simp [z])) (fun z => hb (by simp [z])) q)) hf (Nat.le_refl _) new
    refine ⟨.ref s.heap.objs.size, _, J1, rfl, ⟨_, x, rfl, J.hok.fresh (Nat.le_refl _), rfl, fun ys hy => ?_⟩, ⟨⟨u, ?_⟩, hit'.1.at fun o q => (sb.2 it (Ne.symm hne)).trans q, hne, hae⟩, fun b hb => ?_⟩
    · rw [J.tuple_inj hy hq]; exact hx
    · have e1 : ((i + 1 : Nat) : Int) = (i : Int) + 1 := Int.natCast_succ i
      rw [e1]; exact he'
    · have hb' : b < s.heap.objs.size := by
        rcases List.mem_cons.mp hb with z | hb
        · rw [z]; exact hel
        · rw [List.mem_singleton.mp hb]; exact hil
      rw [upd_ne (Nat.ne_of_lt hb')]
      exact (hf b hb).1
  done := by
    intro X hP hw hK hc i pins s σ H E J hf st hg
    subst hP hw hK
    obtain ⟨⟨old, he⟩, hit, hne, hae⟩ := st
    obtain ⟨xs, hq, hx⟩ := hg
    obtain ⟨its, rv, p, hz⟩ := J.tuple hq
    obtain ⟨f0, f1, f2, f3, f4, f5⟩ := hf it (by simp)
    have hl := rv.length
    have hT : s.TypeIs (.ref e) "enumerate" := ⟨_, he, rfl⟩
    unfold pyNext
    refine wpAny_bind (wpAny_attempt (wpAny_callSpecial?_slot (name := Str.ofString "__next__") hT F.slot_enumerate_next (wpAny_call_entry F.slot_enumerate_next hT F.entry_enumerate_next ?_ (F.args_enumerate_next_1 _))))
    show wpAny _ _ (field (.ref e) 2 >>= _) _ _ _
    refine wpAny_bind (wpAny_field he rfl (x := .ref it) rfl ?_)
    refine wpAny_bind (wpAny_nextOf_tuple_end (J.ok.hd hc) hit (show s.heap.IsTuple a its.toArray from p) (by simp; omega) fun h' x he' hx' => ?_)
    obtain ⟨o, ho, hcl⟩ := hx'
    refine wpAny_bind (wpAny_isInstance (T := "StopIteration") (b := true) ⟨o, ho, hcl⟩ isSubtype_stop (wpAny_pure ?_))
    exact ⟨rfl, J.turned (t' := s.toks) (fun b o hb q => he' b o hb q) f0 f1 f3 f4 f5⟩
  self := fun A i s Q E st h => let ⟨⟨_, he⟩, _⟩ := st; wpAny_pyIter_enum he h

def iEnumT (K : PySem.W.Frag) (ta : TA) : TI := fun σ H R => ta σ H fun vs H1 => ∃ a xs, vs = [.ref a] ∧ ((SqL K H1 a xs ∧ R (Ite K a) H1) ∨ (SqT K H1 a xs ∧ R (ItT K a) H1))
theorem pi_enumA {X : Cx} {e : Expr} {ta : TA} {p pos tpos : Pos} {elts : List Expr} {kk : Nat} (hg : Gl X "enumerate") (hm : X.mg "enumerate" = none) (ha : PA X [e] ta) (hs : starEach [e] X.env = [(false, eval e X.env)]) :
    PI X (.Tuple elts kk tpos) (.Call (.Name "enumerate" p) [e] [] pos) (iEnumT X.K ta) := by
  refine ⟨fun pins s σ H R J h => ?_⟩
  refine Call_ (ld_blt J hg hm boot_enumerate (PyProof.Rows.callWith_type1 (thn (ha.run pos pins s σ H _ J h) fun us s1 ⟨vs, H1, J1, r1, q1⟩ => ?_) hs rfl))
  obtain ⟨a, xs, ex, q⟩ := q1
  subst ex
  obtain ⟨u, rfl, ru⟩ := Vals.one r1
  cases ru
  have fin : ∀ {J' : It} {tn : Nat → Heap → Prop} {h' : Heap}, (∀ b x, s1.heap.get? b = some x → h'.get? b = some x) → Turn X.prog X.w X.K (.Tuple elts kk tpos) J' [s1.heap.objs.size + 1, s1.heap.objs.size] (s1.heap.objs.size + 1) tn →
      tn 0 h' → R J' H1 → PIE X pins σ (.Tuple elts kk tpos) R (.ref (s1.heap.objs.size + 1)) { s1 with heap := h' } := fun {J' tn h'} hk T st q => by
    refine ⟨_, _, tn, J', H1, rfl, J1.kept (t' := s1.toks) hk, T, st, fun b hb => ?_, q⟩
    have hle : s1.heap.objs.size ≤ b := by
      rcases List.mem_cons.mp hb with z | hb
      · rw [z]; exact Nat.le_add_right _ _
      · rw [List.mem_singleton.mp hb]; exact Nat.le_refl _
    exact J1.fpOk hle (J1.hok.fresh hle)
  rcases q with ⟨hq, q⟩ | ⟨hq, q⟩
  · obtain ⟨its, rv, p', hz⟩ := J1.list hq
    exact call_enum1 (begins_list a its.toArray) p'.isList fun h' he hit hk => wpAny_pyIter_enum he (fin hk (turn_enum a _ _) ⟨⟨.none, he⟩, ⟨_, hit, rfl, rfl⟩, Nat.succ_ne_self _⟩ q)
  · obtain ⟨its, rv, p', hz⟩ := J1.tuple hq
    have pT : s1.heap.IsTuple a its.toArray := p'
    have la : a < s1.heap.objs.size := p'.lt
    exact call_enum1 (begins_tuple a its.toArray) pT fun h' he hit hk => wpAny_pyIter_enum he (fin hk (turn_enumT a _ _ (Nat.ne_of_lt la)) ⟨⟨.none, he⟩, ⟨_, hit, rfl, rfl⟩, Nat.succ_ne_self _, Nat.ne_of_lt (Nat.lt_succ_of_lt la)⟩ q)
end PyI

set_option Elab.async false
set_option linter.all false
set_option maxRecDepth 100000
set_option maxHeartbeats 4000000
/-! PyI: a term's reckoning tells what its text does. -/
namespace PyI
open PySem PySem.Spec PyProof.Rows L2
variable {τ : Type} {sr : Sr τ} {O : Pk τ} {F : Fs τ} {T : Nat → Option Str}

theorem bd_eq {β : Type} {x : Option (R × τ)} {f : R → τ → Option β} {y : β} (h : bd x f = some y) : ∃ r t, x = some (r, t) ∧ f r t = some y := by
  unfold bd at h
  split at h
  · exact ⟨_, _, rfl, h⟩
  · cases h
theorem Post.after {K : PySem.W.Frag} {H I H2 I2 : Hp} {t t2 t' : τ} {r : R} {Q : VK} (p : Post sr K H I t' r Q) (hs : HS sr H I t) (hs2 : HS sr H2 I2 t2) (x : Ext sr H I H2 I2) : Post sr K H2 I2 t' r Q := fun v H' I' hs' x' rr => by
  refine p v H' I' hs' (x.trans hs2 hs' x') ?_
  cases r with
  | v d => exact rr
  | k d => exact rr
  | o d =>
    obtain ⟨l, e, f, n1, n2, q⟩ := rr
    exact ⟨l, e, x.fresh hs f n1 n2, n1, n2, q⟩

/-! ### what is shown of a term -/
def SEx (sr : Sr τ) (O : Pk τ) (F : Fs τ) (T : Nat → Option Str) (c : C) : Prop := ∀ {n : Nat} {X : Cx}, GX sr O F T n X → ∀ {ρ : Rho} {t : τ} {r : R} {t' : τ}, ev O F c ρ t = some (r, t') → ∀ {σ : L2.St} {H I H0 : Hp}, HS sr H I t → SR sr X.K H0 ρ σ H I →
  ∀ {e : Expr}, isIt c = false → chk T X.N c X.env.scope [e] = true → ∀ {Q : VK}, Post sr X.K H I t' r Q → wE X e σ H Q
def STs (sr : Sr τ) (O : Pk τ) (F : Fs τ) (T : Nat → Option Str) (c : C) : Prop := ∀ {n : Nat} {X : Cx}, GX sr O F T n X → ∀ {ρ : Rho} {t : τ} {r : R} {t' : τ}, ev O F c ρ t = some (r, t') → ∀ {σ : L2.St} {H I H0 : Hp}, HS sr H I t → SR sr X.K H0 ρ σ H I →
  ∀ {e : Expr} {b : Bool}, isIt c = false → chk T X.N c X.env.scope [e] = true → truth r.d = some b → ∀ {Q : Bool → Hp → Prop}, (∀ H' I', HS sr H' I' t' → Ext sr H I H' I' → Q b H') → wT X e σ H Q
def SLs (sr : Sr τ) (O : Pk τ) (F : Fs τ) (T : Nat → Option Str) (c : C) : Prop := ∀ {n : Nat} {X : Cx}, GX sr O F T n X → ∀ {ρ : Rho} {t : τ} {r : R} {t' : τ}, ev O F c ρ t = some (r, t') → ∀ {σ : L2.St} {H I H0 : Hp}, HS sr H I t → SR sr X.K H0 ρ σ H I →
  ∀ {es : List Expr}, isL c = true → chk T X.N c X.env.scope es = true → ∀ {Q : List V → Hp → Prop}, (∀ vs ds H' I', r = .v (.lst ds) → HS sr H' I' t' → Ext sr H I H' I' → Reps X.K sr.g1 I' vs ds → Q vs H') → wA X es σ H Q
def SIt (sr : Sr τ) (O : Pk τ) (F : Fs τ) (T : Nat → Option Str) (c : C) : Prop := ∀ {n : Nat} {X : Cx}, GX sr O F T n X → ∀ {ρ : Rho} {t : τ} {r : R} {t' : τ}, ev O F c ρ t = some (r, t') → ∀ {σ : L2.St} {H I H0 : Hp}, HS sr H I t → SR sr X.K H0 ρ σ H I →
  ∀ {tg e : Expr} {xs : List D}, isL c = false → (prs c = true → isTup tg = true) → chk T X.N c X.env.scope [e] = true → r.st.bind items = some xs →
  ∀ {R' : It → Hp → Prop}, (∀ J H' I', HS sr H' I' t' → Ext sr H I H' I' → ItOk sr X.K J xs I' → R' J H') → wI X tg e σ H R'
structure Snd (sr : Sr τ) (O : Pk τ) (F : Fs τ) (T : Nat → Option Str) (c : C) : Prop where
  ex : SEx sr O F T c
  ts : STs sr O F T c
  ls : SLs sr O F T c
  it : SIt sr O F T c

def plainT : Expr → Bool
  | .UnaryOp .Not _ _ => false
  | .BoolOp _ _ _ => false
  | .IfExp _ _ _ _ => false
  | .Compare _ _ _ _ => false
  | _ => true
theorem plain_is {e : Expr} (h : plainT e = true) : ∀ (env : PySem.Env) (whole : Sem Value), isTrue e env whole = (do let v ← whole; standAt e.pos; holding [v] (truthy v)) := by
  cases e <;> first | (intro _ _; rfl) | (exact absurd h Bool.false_ne_true) | skip
  rename_i op _ _
  cases op <;> first | (intro _ _; rfl) | (exact absurd h Bool.false_ne_true)
theorem ts_of {c : C} (E : SEx sr O F T c) (hp : ∀ {N : List Str} {sc : Scope} {e : Expr}, chk T N c sc [e] = true → plainT e = true) : STs sr O F T c := by
  intro n X g ρ t r t' he σ H I H0 hs hr e b hi hc hb Q q
  refine wT.of (pt_truth (pe_w e) (plain_is (hp hc) _)) ?_
  exact E g he hs hr hi hc fun v H' I' hs' x rr => ⟨b, tru_of hb hs' rr.w, q H' I' hs' x⟩
theorem itOk_list {K : PySem.W.Frag} {a : Addr} {vs : List V} {xs : List D} {I' : Hp} (e : I' a = some (.lst vs)) (rs : Reps K sr.g1 I' vs xs) : ItOk sr K (Itl K a) xs I' where
  stop := fun H I t i hs l hi => ⟨vs, .inl (.inl (hs.sub _ _ (l _ _ e))), by rw [rs.length]; exact hi⟩
  go := fun H I t i hs l hi => ⟨vs, vs[i]'(by rw [rs.length]; exact hi), .inl (.inl (hs.sub _ _ (l _ _ e))), by simp [rs.length, hi]⟩
  yld := fun H I t i d x H' hs l hd y => by
    obtain ⟨rfl, y⟩ := y
    have k := y vs (.inl (.inl (hs.sub _ _ (l _ _ e))))
    obtain ⟨v, h1, h2⟩ := rs.get hd
    rw [h1] at k; cases k
    exact ⟨I, hs, .refl _ _ _, h2.le l⟩
theorem itOk_tup {K : PySem.W.Frag} {a : Addr} {vs : List V} {xs : List D} {I' : Hp} (e : SqT K I' a vs) (rs : Reps K sr.g1 I' vs xs) : ItOk sr K (Itt K a) xs I' where
  stop := fun H I t i hs l hi => ⟨vs, sqT_le hs.sub (sqT_le l e), by rw [rs.length]; exact hi⟩
  go := fun H I t i hs l hi => ⟨vs, vs[i]'(by rw [rs.length]; exact hi), sqT_le hs.sub (sqT_le l e), by simp [rs.length, hi]⟩
  yld := fun H I t i d x H' hs l hd y => by
    obtain ⟨rfl, y⟩ := y
    have k := y vs (sqT_le hs.sub (sqT_le l e))
    obtain ⟨v, h1, h2⟩ := rs.get hd
    rw [h1] at k; cases k
    exact ⟨I, hs, .refl _ _ _, h2.le l⟩
theorem rangeD_len : ∀ (n : Nat) (lo : Int), (rangeD lo n).length = n
  | 0, _ => rfl
  | n + 1, lo => by rw [rangeD, List.length_cons, rangeD_len n]
theorem rangeD_get : ∀ (n : Nat) (lo : Int) (i : Nat) (d : D), (rangeD lo n)[i]? = some d → d = .int (lo + i)
  | 0, _, _, _, h => by simp [rangeD] at h
  | n + 1, lo, 0, d, h => by simp [rangeD] at h; rw [← h]; simp
  | n + 1, lo, i + 1, d, h => by
    rw [rangeD_get n (lo + 1) i d (by simpa [rangeD] using h)]
    congr 1
    omega
theorem itOk_range {K : PySem.W.Frag} {lo : Int} {n : Nat} {I' : Hp} : ItOk sr K (Itr lo n) (rangeD lo n) I' where
  stop := fun H I t i hs l hi => by rw [rangeD_len] at hi; exact hi
  go := fun H I t i hs l hi => by rw [rangeD_len] at hi; exact hi
  yld := fun H I t i d x H' hs l hd y => by
    obtain ⟨rfl, rfl⟩ := y
    rw [rangeD_get n lo i d hd]
    exact ⟨I, hs, .refl _ _ _, .int _⟩
theorem enumD_len : ∀ (xs : List D) (k : Nat), (enumD k xs).length = xs.length
  | [], _ => rfl
  | x :: xs, k => by rw [enumD, List.length_cons, enumD_len xs, List.length_cons]
theorem enumD_get : ∀ (xs : List D) (k i : Nat) (d : D), (enumD k xs)[i]? = some d → ∃ x, xs[i]? = some x ∧ d = .tup [.int ((k + i : Nat) : Int), x]
  | [], _, _, _, h => by simp [enumD] at h
  | x :: xs, k, 0, d, h => by simp [enumD] at h; exact ⟨x, rfl, by rw [← h]; simp⟩
  | x :: xs, k, i + 1, d, h => by
    obtain ⟨y, h1, h2⟩ := enumD_get xs (k + 1) i d (by simpa [enumD] using h)
    exact ⟨y, by simpa using h1, by rw [h2]; congr 4; omega⟩
theorem pairs_len : ∀ (xs ys : List D), (pairs xs ys).length = min xs.length ys.length
  | [], _ => by simp [pairs]
  | _ :: _, [] => by simp [pairs]
  | x :: xs, y :: ys => by rw [pairs, List.length_cons, pairs_len xs ys, List.length_cons, List.length_cons]; omega
theorem pairs_get : ∀ (xs ys : List D) (i : Nat) (d : D), (pairs xs ys)[i]? = some d → ∃ x y, xs[i]? = some x ∧ ys[i]? = some y ∧ d = .tup [x, y]
  | [], _, _, _, h => by simp [pairs] at h
  | _ :: _, [], _, _, h => by simp [pairs] at h
  | x :: xs, y :: ys, 0, d, h => by simp [pairs] at h; exact ⟨x, y, rfl, rfl, h.symm⟩
  | x :: xs, y :: ys, i + 1, d, h => by
    obtain ⟨a, b, h1, h2, h3⟩ := pairs_get xs ys i d (by simpa [pairs] using h)
    exact ⟨a, b, by simpa using h1, by simpa using h2, h3⟩
/-- a new pair -/
theorem pair_new {K : PySem.W.Frag} {H I : Hp} {t : τ} {p : Addr} {v w : V} {d e : D} (hs : HS sr H I t) (n : H p = none) (h : Rep K sr.g1 I v d) (h' : Rep K sr.g1 I w e) :
    ∃ I2, HS sr (upd H p (.tup [v, w])) I2 t ∧ Ext sr H I (upd H p (.tup [v, w])) I2 ∧ Rep K sr.g1 I2 (.ref p) (.tup [d, e]) :=
  ⟨upd I p (.tup [v, w]), hs.newI n, .newI hs n, .tup (.inl (.inl upd_same)) (.cons (h.le (Le.upd (hs.nI n))) (.cons (h'.le (Le.upd (hs.nI n))) .nil))⟩
theorem itOk_enumL {K : PySem.W.Frag} {a : Addr} {vs : List V} {xs : List D} {I' : Hp} (e : I' a = some (.lst vs)) (rs : Reps K sr.g1 I' vs xs) : ItOk sr K (Ite K a) (enumD 0 xs) I' where
  stop := fun H I t i hs l hi => by rw [enumD_len] at hi; exact ⟨vs, .inl (.inl (hs.sub _ _ (l _ _ e))), by rw [rs.length]; exact hi⟩
  go := fun H I t i hs l hi => by rw [enumD_len] at hi; exact ⟨vs, vs[i]'(by rw [rs.length]; exact hi), .inl (.inl (hs.sub _ _ (l _ _ e))), by simp [rs.length, hi]⟩
  yld := fun H I t i d x H' hs l hd y => by
    obtain ⟨p, z, rfl, n, rfl, y⟩ := y
    have k := y vs (.inl (.inl (hs.sub _ _ (l _ _ e))))
    obtain ⟨w, hw, rfl⟩ := enumD_get xs 0 i d hd
    obtain ⟨v, h1, h2⟩ := rs.get hw
    rw [h1] at k; cases k
    rw [Nat.zero_add]
    exact pair_new hs n (.int _) (h2.le l)
theorem itOk_enumT {K : PySem.W.Frag} {a : Addr} {vs : List V} {xs : List D} {I' : Hp} (e : SqT K I' a vs) (rs : Reps K sr.g1 I' vs xs) : ItOk sr K (ItT K a) (enumD 0 xs) I' where
  stop := fun H I t i hs l hi => by rw [enumD_len] at hi; exact ⟨vs, sqT_le hs.sub (sqT_le l e), by rw [rs.length]; exact hi⟩
  go := fun H I t i hs l hi => by rw [enumD_len] at hi; exact ⟨vs, vs[i]'(by rw [rs.length]; exact hi), sqT_le hs.sub (sqT_le l e), by simp [rs.length, hi]⟩
  yld := fun H I t i d x H' hs l hd y => by
    obtain ⟨p, z, rfl, n, rfl, y⟩ := y
    have k := y vs (sqT_le hs.sub (sqT_le l e))
    obtain ⟨w, hw, rfl⟩ := enumD_get xs 0 i d hd
    obtain ⟨v, h1, h2⟩ := rs.get hw
    rw [h1] at k; cases k
    rw [Nat.zero_add]
    exact pair_new hs n (.int _) (h2.le l)
theorem itOk_zipL {K : PySem.W.Frag} {a b : Addr} {vs ws : List V} {xs ys : List D} {I' : Hp} (e : I' a = some (.lst vs)) (rs : Reps K sr.g1 I' vs xs) (e' : I' b = some (.lst ws)) (rs' : Reps K sr.g1 I' ws ys) : ItOk sr K (Itz K a b) (pairs xs ys) I' where
  stop := fun H I t i hs l hi => by
    rw [pairs_len] at hi
    exact ⟨vs, ws, .inl (.inl (hs.sub _ _ (l _ _ e))), .inl (.inl (hs.sub _ _ (l _ _ e'))), by rw [rs.length, rs'.length]; omega⟩
  go := fun H I t i hs l hi => by
    rw [pairs_len] at hi
    have h1 : i < vs.length := by rw [rs.length]; omega
    have h2 : i < ws.length := by rw [rs'.length]; omega
    exact ⟨vs, ws, vs[i], ws[i], .inl (.inl (hs.sub _ _ (l _ _ e))), .inl (.inl (hs.sub _ _ (l _ _ e'))), by simp [h1], by simp [h2]⟩
  yld := fun H I t i d x H' hs l hd y => by
    obtain ⟨p, z, z', rfl, n, rfl, y, y'⟩ := y
    have k := y vs (.inl (.inl (hs.sub _ _ (l _ _ e))))
    have k' := y' ws (.inl (.inl (hs.sub _ _ (l _ _ e'))))
    obtain ⟨w, w', hw, hw', rfl⟩ := pairs_get xs ys i d hd
    obtain ⟨v, h1, h2⟩ := rs.get hw
    obtain ⟨v', h1', h2'⟩ := rs'.get hw'
    rw [h1] at k; cases k
    rw [h1'] at k'; cases k'
    exact pair_new hs n (h2.le l) (h2'.le l)
theorem itOk_zipT {K : PySem.W.Frag} {a b : Addr} {vs ws : List V} {xs ys : List D} {I' : Hp} (e : SqT K I' a vs) (rs : Reps K sr.g1 I' vs xs) (e' : SqT K I' b ws) (rs' : Reps K sr.g1 I' ws ys) : ItOk sr K (RZ.ItzT K a b) (pairs xs ys) I' where
  stop := fun H I t i hs l hi => by
    rw [pairs_len] at hi
    exact ⟨vs, ws, sqT_le hs.sub (sqT_le l e), sqT_le hs.sub (sqT_le l e'), by rw [rs.length, rs'.length]; omega⟩
  go := fun H I t i hs l hi => by
    rw [pairs_len] at hi
    have h1 : i < vs.length := by rw [rs.length]; omega
    have h2 : i < ws.length := by rw [rs'.length]; omega
    exact ⟨vs, ws, vs[i], ws[i], sqT_le hs.sub (sqT_le l e), sqT_le hs.sub (sqT_le l e'), by simp [h1], by simp [h2]⟩
  yld := fun H I t i d x H' hs l hd y => by
    obtain ⟨p, z, z', rfl, n, rfl, y, y'⟩ := y
    have k := y vs (sqT_le hs.sub (sqT_le l e))
    have k' := y' ws (sqT_le hs.sub (sqT_le l e'))
    obtain ⟨w, w', hw, hw', rfl⟩ := pairs_get xs ys i d hd
    obtain ⟨v, h1, h2⟩ := rs.get hw
    obtain ⟨v', h1', h2'⟩ := rs'.get hw'
    rw [h1] at k; cases k
    rw [h1'] at k'; cases k'
    exact pair_new hs n (h2.le l) (h2'.le l)

/-- a strong list, a strong tuple -/
theorem rep_items {K : PySem.W.Frag} {I : Hp} {v : V} {d : D} {xs : List D} (h : Rep K sr.g1 I v d) (e : items d = some xs) :
    ∃ a vs, v = .ref a ∧ Reps K sr.g1 I vs xs ∧ ((d = .lst xs ∧ I a = some (.lst vs)) ∨ (d = .tup xs ∧ SqT K I a vs)) := by
  cases h with
  | lst q r => cases e; exact ⟨_, _, rfl, r, .inl ⟨rfl, q⟩⟩
  | tup q r => cases e; exact ⟨_, _, rfl, r, .inr ⟨rfl, q⟩⟩
  | _ => cases e
theorem st_items {r : R} {xs : List D} (h : r.st.bind items = some xs) : ∃ d, r.st = some d ∧ items d = some xs := by
  simpa [Option.bind_eq_some_iff] using h
theorem it_of {c : C} (E : SEx sr O F T c) (hi : isIt c = false) : SIt sr O F T c := by
  intro n X g ρ t r t' he σ H I H0 hs hr tg e xs hl hp hc hx R' q
  obtain ⟨d, h1, h2⟩ := st_items hx
  -- by what it is: a list, a tuple
  have key : ∀ v H' I', HS sr H' I' t' → Ext sr H I H' I' → RR sr X.K H H' I' v r → ∃ J a vs, HS sr H' J t' ∧ Ext sr H I H' J ∧ v = .ref a ∧ Reps X.K sr.g1 J vs xs ∧ ((d = .lst xs ∧ J a = some (.lst vs)) ∨ (d = .tup xs ∧ SqT X.K J a vs)) := fun v H' I' hs' x rr => by
    obtain ⟨J, hsJ, xJ, rep⟩ := rr.frz hs' x h1
    obtain ⟨a, vs, e1, e2, e3⟩ := rep_items rep h2
    exact ⟨J, a, vs, hsJ, xJ, e1, e2, e3⟩
  cases d with
  | lst ys =>
    refine wI.of (pi_list (pe_w e)) ?_
    refine E g he hs hr hi hc fun v H' I' hs' x rr => ?_
    obtain ⟨J, a, vs, hsJ, xJ, rfl, rs, k⟩ := key v H' I' hs' x rr
    rcases k with ⟨_, k⟩ | ⟨z, _⟩
    · exact ⟨a, rfl, ⟨vs, .inl (.inl (hsJ.sub _ _ k))⟩, q _ _ J hsJ xJ (itOk_list k rs)⟩
    · cases z
  | tup ys =>
    refine wI.of (pi_tup (pe_w e)) ?_
    refine E g he hs hr hi hc fun v H' I' hs' x rr => ?_
    obtain ⟨J, a, vs, hsJ, xJ, rfl, rs, k⟩ := key v H' I' hs' x rr
    rcases k with ⟨z, _⟩ | ⟨_, k⟩
    · cases z
    · exact ⟨a, rfl, ⟨vs, sqT_le hsJ.sub k⟩, q _ _ J hsJ xJ (itOk_tup k rs)⟩
  | _ => cases h2
theorem ls_not {c : C} (h : isL c = false) : SLs sr O F T c := by
  intro n X g ρ t r t' he σ H I H0 hs hr es h'
  rw [h] at h'; cases h'
theorem ex_not {c : C} (h : isIt c = true) : SEx sr O F T c := by
  intro n X g ρ t r t' he σ H I H0 hs hr es h'
  rw [h] at h'; cases h'
theorem ts_not {c : C} (h : isIt c = true) : STs sr O F T c := by
  intro n X g ρ t r t' he σ H I H0 hs hr e b h'
  rw [h] at h'; cases h'
theorem it_not {c : C} (h : isL c = true) : SIt sr O F T c := by
  intro n X g ρ t r t' he σ H I H0 hs hr tg e xs h'
  rw [h] at h'; cases h'
theorem Snd.mkL {c : C} (h1 : isIt c = true) (h2 : isL c = true) (L : SLs sr O F T c) : Snd sr O F T c := ⟨ex_not h1, ts_not h1, L, it_not h2⟩
theorem Snd.mkI {c : C} (h1 : isIt c = true) (h2 : isL c = false) (L : SIt sr O F T c) : Snd sr O F T c := ⟨ex_not h1, ts_not h1, ls_not h2, L⟩
theorem isL_of {c : C} (h : isIt c = false) : isL c = false := by cases c <;> first | rfl | cases h
theorem Snd.mk0 {c : C} (hi : isIt c = false) (hp : ∀ {N : List Str} {sc : Scope} {e : Expr}, chk T N c sc [e] = true → plainT e = true) (E : SEx sr O F T c) : Snd sr O F T c :=
  ⟨E, ts_of E hp, ls_not (isL_of hi), it_of E hi⟩
theorem Snd.mk1 {c : C} (hi : isIt c = false) (E : SEx sr O F T c) (B : STs sr O F T c) : Snd sr O F T c :=
  ⟨E, B, ls_not (isL_of hi), it_of E hi⟩

/-! ### two operands -/
section
variable {n : Nat} {X : Cx} {a b : C} {ρ : Rho} {t t1 t2 t' : τ} {ra rb r : R} {σ : L2.St} {H I H0 : Hp} {x y : Expr}
theorem two (A : SEx sr O F T a) (B : SEx sr O F T b) (g : GX sr O F T n X) (ea : ev O F a ρ t = some (ra, t1)) (eb : ev O F b ρ t1 = some (rb, t2)) (hs : HS sr H I t) (hr : SR sr X.K H0 ρ σ H I)
    (ia : isIt a = false) (ib : isIt b = false) (ca : chk T X.N a X.env.scope [x] = true) (cb : chk T X.N b X.env.scope [y] = true) {P : V → V → Hp → Prop}
    (h : ∀ v w H2 I2, HS sr H2 I2 t2 → Ext sr H I H2 I2 → WR sr X.K H2 I2 v ra → WR sr X.K H2 I2 w rb → P v w H2) : wE X x σ H fun v H1 => wE X y σ H1 fun w H2 => P v w H2 :=
  A g ea hs hr ia ca fun v H1 I1 hs1 x1 rr1 => B g eb hs1 (hr.ext x1) ib cb fun w H2 I2 hs2 x2 rr2 => h v w H2 I2 hs2 (x1.trans hs1 hs2 x2) (rr1.w.ext x2) rr2.w
/-- an operator by its plain kin -/
def rBin (sr : Sr τ) (K : PySem.W.Frag) (t : τ) (op : BOp) : R2 := fun x y H Q => ∃ I ra rb r, HS sr H I t ∧ WR sr K H I x ra ∧ WR sr K H I y rb ∧ binD op ra.d rb.d = some r ∧ Post sr K H I t r Q
theorem opBin {op : BOp} : OpR X (binaryOp (bop op)) (rBin sr X.K t op) := fun pins s σ H x y v u Q J r1 r2 ⟨I, ra, rb, r, hs, hx, hy, e, p⟩ => bin_ok e hs hx hy p J r1 r2
def rCop (sr : Sr τ) (K : PySem.W.Frag) (t : τ) (op : COp) : R2 := fun x y H Q => ∃ I ra rb c, HS sr H I t ∧ WR sr K H I x ra ∧ WR sr K H I y rb ∧ cmpD op ra.d rb.d = some c ∧ Q (.bl c) H
theorem opCmp (hu : X.A.units + 64 < cLine) {op : COp} : OpR X (compareOp (cop op)) (rCop sr X.K t op) := fun pins s σ H x y v u Q J r1 r2 ⟨I, ra, rb, c, hs, hx, hy, e, q⟩ => cmp_ok e hu hs hx hy q J r1 r2
def rIxD (sr : Sr τ) (K : PySem.W.Frag) (t : τ) : R2 := fun x y H Q => ∃ I ra rb d, HS sr H I t ∧ WR sr K H I x ra ∧ WR sr K H I y rb ∧ ixD ra.d rb.d = some d ∧ ∀ v, Rep K sr.g1 I v d → Q v H
theorem opIx (hu : X.A.units + 64 < cLine) : IxR X (rIxD sr X.K t) := fun value slice pins s σ H x y v u Q J r1 r2 ⟨I, ra, rb, d, hs, hx, hy, e, q⟩ hp => ix_ok hu e hs hx hy q J r1 r2 hp
end
theorem plainIx {y : Expr} (h : nonSlice y = true) : PlainIx y := by
  cases y <;> first | (intro _ _; rfl) | cases h

/-! ### the terms, one by one -/
theorem s_var {i : Nat} : Snd sr O F T (.var i) := by
  refine .mk0 rfl (fun h => ?_) fun {n X} g {ρ t r t'} he {σ H I H0} hs hr {e} _ hc {Q} p => ?_
  · obtain ⟨x, q, rfl, _⟩ := chk_var h; rfl
  · obtain ⟨x, q, rfl, hN, hv, hd, hcd⟩ := chk_var hc
    refine wE.of (pe_var hN hv hd hcd) ?_
    simp only [ev] at he
    split at he
    · rename_i d e1
      cases he
      obtain ⟨v, e2, rep⟩ := hr.val i d e1
      exact ⟨v, e2, p.flat hs rep⟩
    · rename_i d e1
      cases he
      obtain ⟨l, e2, _, n1, n2, _, o⟩ := hr.own i d e1
      exact ⟨.ref l, e2, p _ _ _ hs (.refl _ _ _) ⟨l, rfl, n1, n2, o⟩⟩
    · cases he
theorem s_const {c : C} (hi : isIt c = false) (ha : (∃ b, c = .bl b) ∨ c = .non ∨ (∃ i, c = .int i) ∨ ∃ x, c = .str x) : Snd sr O F T c := by
  refine .mk0 hi (fun h => ?_) fun {n X} g {ρ t r t'} he {σ H I H0} hs hr {e} _ hc {Q} p => ?_
  · obtain ⟨j, q, k⟩ := chk_const h ha
    rcases k with ⟨_, rfl⟩ | ⟨_, _, rfl⟩ | ⟨_, _, rfl⟩ | ⟨_, _, rfl⟩ <;> rfl
  · obtain ⟨j, q, k⟩ := chk_const hc ha
    rcases k with ⟨rfl, rfl⟩ | ⟨b, rfl, rfl⟩ | ⟨i, rfl, rfl⟩ | ⟨x, rfl, rfl⟩
    · cases he; exact wE.of pe_non (p.flat hs .non)
    · cases he; exact wE.of pe_bl (p.flat hs (.bl _))
    · cases he; exact wE.of pe_int (p.flat hs (.int _))
    · cases he; exact wE.of pe_str (p.flat hs (.str _))
theorem s_nil : Snd sr O F T .nil := by
  refine .mkL rfl rfl fun {n X} g {ρ t r t'} he {σ H I H0} hs hr {es} _ hc {Q} q => ?_
  rw [chk_nil hc]
  cases he
  exact wA.of pa_nil (q [] [] H I rfl hs (.refl _ _ _) .nil)
theorem s_cons {a b : C} (A : Snd sr O F T a) (B : Snd sr O F T b) : Snd sr O F T (.cons a b) := by
  refine .mkL rfl rfl fun {n X} g {ρ t r t'} he {σ H I H0} hs hr {es} _ hc {Q} q => ?_
  obtain ⟨x, xs, rfl, h1, h2, h3, h4, h5⟩ := chk_cons hc
  simp only [ev] at he
  obtain ⟨ra, t1, e1, he⟩ := bd_eq he
  obtain ⟨rb, t2, e2, he⟩ := bd_eq he
  split at he
  · rename_i d ds z1 z2
    cases he
    refine wA.of (pa_cons (pe_w x) (pa_w xs) (star_cons h1)) ?_
    refine A.ex g e1 hs hr h2 h3 fun v H1 I1 hs1 x1 rr1 => ?_
    obtain ⟨J, hsJ, xJ, rep⟩ := rr1.frz hs1 x1 z1
    refine B.ls g e2 hsJ (hr.ext xJ) h4 h5 fun vs ds' H2 I2 hv hs2 x2 rs => ?_
    subst hv
    cases z2
    exact q (v :: vs) (d :: ds) H2 I2 rfl hs2 (xJ.trans hsJ hs2 x2) (.cons (rep.le x2.im) rs)
  · cases he
theorem s_scons {a b : C} (A : Snd sr O F T a) (B : Snd sr O F T b) : Snd sr O F T (.scons a b) := by
  refine .mkL rfl rfl fun {n X} g {ρ t r t'} he {σ H I H0} hs hr {es} _ hc {Q} q => ?_
  obtain ⟨x, p, xs, rfl, h2, h3, h4, h5⟩ := chk_scons hc
  simp only [ev] at he
  obtain ⟨ra, t1, e1, he⟩ := bd_eq he
  obtain ⟨rb, t2, e2, he⟩ := bd_eq he
  split at he
  · rename_i ds es z1 z2
    cases he
    refine wA.of (StX.pa_star (pe_w x) (pa_w xs)) ?_
    refine A.ex g e1 hs hr h2 h3 fun v H1 I1 hs1 x1 rr1 => ?_
    have wv := rr1.w
    have key : ∃ l vs, v = .ref l ∧ (SqT X.K H1 l vs ∨ SqL X.K H1 l vs) ∧ Reps X.K sr.g1 I1 vs ds := by
      cases hd : ra.d <;> rw [hd] at z1 <;> first | (cases z1; done) | skip
      · cases z1
        obtain ⟨l, vs, e, q', rs⟩ := wv.tup hd
        exact ⟨l, vs, e, .inl (sqT_le hs1.sub q'), rs⟩
      · cases z1
        obtain ⟨l, vs, e, q', rs⟩ := wv.lst hs1.sub hd
        exact ⟨l, vs, e, .inr (.inl (.inl q')), rs⟩
    obtain ⟨l, vs, rfl, hsq, rs⟩ := key
    refine ⟨l, vs, rfl, hsq, ?_⟩
    refine B.ls g e2 hs1 (hr.ext x1) h4 h5 fun ws ds' H2 I2 hv hs2 x2 rs2 => ?_
    subst hv
    cases z2
    exact q (vs ++ ws) _ H2 I2 rfl hs2 (x1.trans hs1 hs2 x2) ((rs.le x2.im).append rs2)
  · cases he
theorem s_tup {a : C} (A : Snd sr O F T a) : Snd sr O F T (.tup a) := by
  refine .mk0 rfl (fun h => ?_) fun {n X} g {ρ t r t'} he {σ H I H0} hs hr {e} _ hc {Q} p => ?_
  · obtain ⟨xs, k, q, rfl, _⟩ := chk_tup h; rfl
  · obtain ⟨xs, k, q, rfl, hl, hc⟩ := chk_tup hc
    simp only [ev] at he
    obtain ⟨ra, t1, e1, he⟩ := bd_eq he
    refine wE.of (pe_tup (pa_w xs)) ?_
    refine A.ls g e1 hs hr hl hc fun vs ds H1 I1 hv hs1 x1 rs => ?_
    subst hv
    simp only [R.d_v] at he
    split at he
    · rename_i z
      cases he
      exact ⟨by rw [rs.length]; exact z, fun l n => (p.after hs hs1 x1).newT hs1 n rs⟩
    · cases he
theorem s_lst {a : C} (A : Snd sr O F T a) : Snd sr O F T (.lst a) := by
  refine .mk0 rfl (fun h => ?_) fun {n X} g {ρ t r t'} he {σ H I H0} hs hr {e} _ hc {Q} p => ?_
  · obtain ⟨xs, q, rfl, _⟩ := chk_lst h; rfl
  · obtain ⟨xs, q, rfl, hl, hc⟩ := chk_lst hc
    simp only [ev] at he
    obtain ⟨ra, t1, e1, he⟩ := bd_eq he
    refine wE.of (pe_lst (pa_w xs)) ?_
    refine A.ls g e1 hs hr hl hc fun vs ds H1 I1 hv hs1 x1 rs => ?_
    subst hv
    simp only [R.d_v] at he
    split at he
    · rename_i z
      cases he
      exact ⟨by rw [rs.length]; exact z, fun l n => (p.after hs hs1 x1).newL hs1 n rs⟩
    · cases he
theorem s_dnil : Snd sr O F T .dnil := by
  refine .mk0 rfl (fun h => ?_) fun {n X} g {ρ t r t'} he {σ H I H0} hs hr {e} _ hc {Q} p => ?_
  · obtain ⟨q, rfl⟩ := chk_dnil h; rfl
  · obtain ⟨q, rfl⟩ := chk_dnil hc
    cases he
    exact wE.of pe_dnewK fun l n => p.newO hs n fun J e => ⟨[], e, .nil, .nil⟩
theorem s_bin {op : BOp} {a b : C} (A : Snd sr O F T a) (B : Snd sr O F T b) : Snd sr O F T (.bin op a b) := by
  refine .mk0 rfl (fun h => ?_) fun {n X} g {ρ t r t'} he {σ H I H0} hs hr {e} _ hc {Q} p => ?_
  · obtain ⟨x, y, q, rfl, _⟩ := chk_bin h; rfl
  · obtain ⟨x, y, q, rfl, h1, h2, h3, h4⟩ := chk_bin hc
    simp only [ev] at he
    obtain ⟨ra, t1, e1, he⟩ := bd_eq he
    obtain ⟨rb, t2, e2, he⟩ := bd_eq he
    simp only [Option.map_eq_some_iff] at he
    obtain ⟨r', he, z⟩ := he
    cases z
    refine wE.of (pe_op (opBin (sr := sr) (t := t')) (pe_w x) (pe_w y)) ?_
    exact two A.ex B.ex g e1 e2 hs hr h1 h2 h3 h4 fun v w H2 I2 hs2 x2 wv ww => ⟨I2, ra, rb, _, hs2, wv, ww, he, p.after hs hs2 x2⟩
theorem s_neg {a : C} (A : Snd sr O F T a) : Snd sr O F T (.neg a) := by
  refine .mk0 rfl (fun h => ?_) fun {n X} g {ρ t r t'} he {σ H I H0} hs hr {e} _ hc {Q} p => ?_
  · obtain ⟨x, q, rfl, _⟩ := chk_neg h; rfl
  · obtain ⟨x, q, rfl, h1, h2⟩ := chk_neg hc
    simp only [ev] at he
    obtain ⟨ra, t1, e1, he⟩ := bd_eq he
    split at he
    · rename_i i z
      cases he
      refine wE.of (pe_un un_neg (pe_w x)) ?_
      exact A.ex g e1 hs hr h1 h2 fun v H1 I1 hs1 x1 rr => ⟨i, rr.w.int hs1.sub z, (p.after hs hs1 x1).flat hs1 (.int _)⟩
    · cases he
theorem s_nt {a : C} (A : Snd sr O F T a) : Snd sr O F T (.nt a) := by
  refine .mk1 rfl (fun {n X} g {ρ t r t'} he {σ H I H0} hs hr {e} _ hc {Q} p => ?_) fun {n X} g {ρ t r t'} he {σ H I H0} hs hr {e b} _ hc hb {Q} q => ?_
  · obtain ⟨x, q, rfl, h1, h2⟩ := chk_nt hc
    simp only [ev] at he
    obtain ⟨ra, t1, e1, he⟩ := bd_eq he
    simp only [Option.map_eq_some_iff] at he
    obtain ⟨b, hk, z⟩ := he
    cases z
    refine wE.of (pe_notT (pe_w x)) ?_
    exact A.ex g e1 hs hr h1 h2 fun v H1 I1 hs1 x1 rr => ⟨b, tru_of hk hs1 rr.w, (p.after hs hs1 x1).flat hs1 (.bl _)⟩
  · obtain ⟨x, k, rfl, h1, h2⟩ := chk_nt hc
    simp only [ev] at he
    obtain ⟨ra, t1, e1, he⟩ := bd_eq he
    simp only [Option.map_eq_some_iff] at he
    obtain ⟨b', hk, z⟩ := he
    cases z
    cases hb
    refine wT.of (pt_not (pt_w x)) ?_
    exact A.ts g e1 hs hr h1 h2 hk fun H' I' hs' x' => q H' I' hs' x'
theorem s_cmp {op : COp} {a b : C} (A : Snd sr O F T a) (B : Snd sr O F T b) : Snd sr O F T (.cmp op a b) := by
  have key : ∀ {n : Nat} {X : Cx}, GX sr O F T n X → ∀ {ρ : Rho} {t : τ} {r : R} {t' : τ}, ev O F (.cmp op a b) ρ t = some (r, t') → ∀ {σ : L2.St} {H I H0 : Hp}, HS sr H I t → SR sr X.K H0 ρ σ H I → ∀ {x y : Expr}, isIt a = false → isIt b = false → chk T X.N a X.env.scope [x] = true → chk T X.N b X.env.scope [y] = true →
      ∃ c, r = .v (.bl c) ∧ ∀ {Q : VK}, (∀ H' I', HS sr H' I' t' → Ext sr H I H' I' → Q (.bl c) H') → tOp (rCop sr X.K t' op) (wE X x) (wE X y) σ H Q := by
    intro n X g ρ t r t' he σ H I H0 hs hr x y h1 h2 h3 h4
    simp only [ev] at he
    obtain ⟨ra, t1, e1, he⟩ := bd_eq he
    obtain ⟨rb, t2, e2, he⟩ := bd_eq he
    simp only [Option.map_eq_some_iff] at he
    obtain ⟨c, hk, z⟩ := he
    cases z
    exact ⟨c, rfl, fun q => two A.ex B.ex g e1 e2 hs hr h1 h2 h3 h4 fun v w H2 I2 hs2 x2 wv ww => ⟨I2, ra, rb, c, hs2, wv, ww, hk, q H2 I2 hs2 x2⟩⟩
  refine .mk1 rfl (fun {n X} g {ρ t r t'} he {σ H I H0} hs hr {e} _ hc {Q} p => ?_) fun {n X} g {ρ t r t'} he {σ H I H0} hs hr {e b} _ hc hb {Q} q => ?_
  · obtain ⟨x, y, q, rfl, hm, h1, h2, h3, h4⟩ := chk_cmp hc
    obtain ⟨c, rfl, k⟩ := key g he hs hr h1 h2 h3 h4
    exact wE.of (pe_cmpR (opCmp g.hu) (pe_w x) (pe_w y) hm) (k fun H' I' hs' x' => (p.after hs hs' x').flat hs' (.bl _))
  · obtain ⟨x, y, q', rfl, hm, h1, h2, h3, h4⟩ := chk_cmp hc
    obtain ⟨c, rfl, k⟩ := key g he hs hr h1 h2 h3 h4
    cases hb
    exact wT.of (pt_cmpR (opCmp g.hu) (pe_w x) (pe_w y) hm) (k fun H' I' hs' x' => ⟨_, rfl, q H' I' hs' x'⟩)
end PyI

set_option Elab.async false
set_option linter.all false
set_option maxRecDepth 100000
set_option maxHeartbeats 4000000
/-! PyI: the terms, further. -/
namespace PyI
open PySem PySem.Spec PyProof.Rows L2
variable {τ : Type} {sr : Sr τ} {O : Pk τ} {F : Fs τ} {T : Nat → Option Str}

def rIsc (sr : Sr τ) (K : PySem.W.Frag) (t : τ) (no : Bool) (k : Option Bool) : R2 := fun x y H Q => ∃ I ra c, HS sr H I t ∧ WR sr K H I x ra ∧ y = (match k with | none => .non | some b => .bl b) ∧ iscD k ra.d = some c ∧ Q (.bl (c != no)) H
theorem opIsc {X : Cx} {no : Bool} {k : Option Bool} {t : τ} : OpR X (compareOp (if no then .IsNot else .Is)) (rIsc sr X.K t no k) := by
  intro pins s σ H x y v u Q J r1 r2 ⟨I, ra, c, hs, hx, hy, e, q⟩
  have hxr := hx.rep hs.sub
  generalize ea : ra.d = da at e hxr
  cases k with
  | none =>
    subst hy
    have e' : c = decide (x = .non) := by
      unfold iscD at e
      cases hxr <;> first | (cases e; rfl) | cases e
    subst e'
    cases no with
    | true => exact op_notN pins s σ H x _ v u Q J r1 r2 ⟨rfl, by cases h : decide (x = V.non) <;> rw [h] at q <;> exact q⟩
    | false => exact op_isN pins s σ H x _ v u Q J r1 r2 ⟨rfl, by cases h : decide (x = V.non) <;> rw [h] at q <;> exact q⟩
  | some b =>
    subst hy
    cases da with
    | bl d =>
      cases hxr
      cases e
      cases no with
      | true => exact op_notBl pins s σ H _ _ v u Q J r1 r2 ⟨d, b, rfl, rfl, by cases b <;> cases d <;> exact q⟩
      | false => exact op_isBl pins s σ H _ _ v u Q J r1 r2 ⟨d, b, rfl, rfl, by cases b <;> cases d <;> exact q⟩
    | _ => cases e
theorem pe_lit {X : Cx} {k : Option Bool} {j p} : PE X (.Constant (lit k) j p) (tC (match k with | none => .non | some b => .bl b)) := by
  cases k with
  | none => exact pe_non
  | some b => exact pe_bl
theorem s_isc {no : Bool} {a : C} {k : Option Bool} (A : Snd sr O F T a) : Snd sr O F T (.isc no a k) := by
  have key : ∀ {n : Nat} {X : Cx}, GX sr O F T n X → ∀ {ρ : Rho} {t : τ} {r : R} {t' : τ}, ev O F (.isc no a k) ρ t = some (r, t') → ∀ {σ : L2.St} {H I H0 : Hp}, HS sr H I t → SR sr X.K H0 ρ σ H I → ∀ {x : Expr}, isIt a = false → chk T X.N a X.env.scope [x] = true →
      ∃ c, r = .v (.bl c) ∧ ∀ {Q : VK}, (∀ H' I', HS sr H' I' t' → Ext sr H I H' I' → Q (.bl c) H') → tOp (rIsc sr X.K t' no k) (wE X x) (tC (match k with | none => .non | some b => .bl b)) σ H Q := by
    intro n X g ρ t r t' he σ H I H0 hs hr x h1 h2
    simp only [ev] at he
    obtain ⟨ra, t1, e1, he⟩ := bd_eq he
    simp only [Option.map_eq_some_iff] at he
    obtain ⟨c, hk, z⟩ := he
    cases z
    exact ⟨_, rfl, fun q => A.ex g e1 hs hr h1 h2 fun v H1 I1 hs1 x1 rr => ⟨I1, ra, c, hs1, rr.w, rfl, hk, q H1 I1 hs1 x1⟩⟩
  have nm : behindInMarks (if no then .IsNot else .Is) (.Constant (lit k) 0 ⟨0, 0, 0, 0⟩) = false := rfl
  refine .mk1 rfl (fun {n X} g {ρ t r t'} he {σ H I H0} hs hr {e} _ hc {Q} p => ?_) fun {n X} g {ρ t r t'} he {σ H I H0} hs hr {e b} _ hc hb {Q} q => ?_
  · obtain ⟨x, j, p1, p2, rfl, h1, h2⟩ := chk_isc hc
    obtain ⟨c, rfl, kk⟩ := key g he hs hr h1 h2
    exact wE.of (pe_cmpR opIsc (pe_w x) pe_lit rfl) (kk fun H' I' hs' x' => (p.after hs hs' x').flat hs' (.bl _))
  · obtain ⟨x, j, p1, p2, rfl, h1, h2⟩ := chk_isc hc
    obtain ⟨c, rfl, kk⟩ := key g he hs hr h1 h2
    cases hb
    exact wT.of (pt_cmpR opIsc (pe_w x) pe_lit rfl) (kk fun H' I' hs' x' => ⟨_, rfl, q H' I' hs' x'⟩)

/-- a test that is an if-expression -/
theorem pt_ifExp {X : Cx} {c a b : Expr} {p : Pos} {tc ta tb : TT} (hc : PT X c tc) (ha : PT X a ta) (hb : PT X b tb) : PT X (.IfExp c a b p) (fun σ H Q => tc σ H fun d H1 => if d = true then ta σ H1 Q else tb σ H1 Q) := by
  refine ⟨fun pins s σ H Q J h => ?_⟩
  show wpAny _ _ (do if ← isTrue c X.env (eval c X.env) then isTrue a X.env (eval a X.env) else isTrue b X.env (eval b X.env)) _ _ s
  refine wpAny_bind (thn (hc.run pins s σ H _ J h) fun d s1 ⟨H1, J1, q⟩ => ?_)
  cases d with
  | true => exact ha.run pins s1 σ H1 Q J1 q
  | false => exact hb.run pins s1 σ H1 Q J1 q
theorem s_ife {c a b : C} (Z : Snd sr O F T c) (A : Snd sr O F T a) (B : Snd sr O F T b) : Snd sr O F T (.ife c a b) := by
  refine .mk1 rfl (fun {n X} g {ρ t r t'} he {σ H I H0} hs hr {e} _ hc {Q} p => ?_) fun {n X} g {ρ t r t'} he {σ H I H0} hs hr {e b'} _ hc hb {Q} q => ?_
  · obtain ⟨z, x, y, k, rfl, h1, h2, h3, h4, h5, h6⟩ := chk_ife hc
    simp only [ev] at he
    obtain ⟨rc, t1, e1, he⟩ := bd_eq he
    refine wE.of (pe_ifExp (pt_w z) (pe_w x) (pe_w y)) ?_
    split at he
    · rename_i zt
      exact Z.ts g e1 hs hr h1 h4 zt fun H' I' hs' x' => A.ex g he hs' (hr.ext x') h2 h5 (p.after hs hs' x')
    · rename_i zt
      exact Z.ts g e1 hs hr h1 h4 zt fun H' I' hs' x' => B.ex g he hs' (hr.ext x') h3 h6 (p.after hs hs' x')
    · cases he
  · obtain ⟨z, x, y, k, rfl, h1, h2, h3, h4, h5, h6⟩ := chk_ife hc
    simp only [ev] at he
    obtain ⟨rc, t1, e1, he⟩ := bd_eq he
    refine wT.of (pt_ifExp (pt_w z) (pt_w x) (pt_w y)) ?_
    split at he
    · rename_i zt
      exact Z.ts g e1 hs hr h1 h4 zt fun H' I' hs' x' => A.ts g he hs' (hr.ext x') h2 h5 hb fun H2 I2 hs2 x2 => q H2 I2 hs2 (x'.trans hs' hs2 x2)
    · rename_i zt
      exact Z.ts g e1 hs hr h1 h4 zt fun H' I' hs' x' => B.ts g he hs' (hr.ext x') h3 h6 hb fun H2 I2 hs2 x2 => q H2 I2 hs2 (x'.trans hs' hs2 x2)
    · cases he

/-! ### and, or -/
theorem restE {op : PySem.BoolOp} {N : List Str} {sc : Scope} {b : C} {y : Expr} {rest : List Expr} {p : Pos} (h : RestB op T N sc b y rest p) {X : Cx} {te : TE} (hy : chk T N b sc [y] = true → PE X y te) (hz : chk T N b sc [.BoolOp op (y :: rest) p] = true → PE X (.BoolOp op (y :: rest) p) te) : PE X (.BoolOp op (y :: rest) p) te := by
  rcases h with ⟨rfl, h⟩ | h
  · exact pe_one (hy h)
  · exact hz h
theorem pw_bool {X : Cx} {op : PySem.BoolOp} {l : List Expr} {p : Pos} {tt : TT} (h : PT X (.BoolOp op l p) tt) : PW X (.BoolOp op l p) tt := ⟨fun _ pins s σ H Q J q => h.run pins s σ H Q J q⟩
theorem pw_one {X : Cx} {op : PySem.BoolOp} {y : Expr} {p : Pos} {tt : TT} (h : PT X y tt) : PW X (.BoolOp op [y] p) tt := by
  cases op with
  | And => exact pw_and1 h
  | Or => exact pw_or1 h
/-- what the rest comes to -/
theorem rest_ex {op : PySem.BoolOp} {b : C} (B : Snd sr O F T b) {n : Nat} {X : Cx} (g : GX sr O F T n X) {y : Expr} {rest : List Expr} {p : Pos} (ib : isIt b = false) (h : RestB op T X.N X.env.scope b y rest p) {ρ : Rho} {t t' : τ} {r : R} (he : ev O F b ρ t = some (r, t'))
    {σ : L2.St} {H I H0 : Hp} (hs : HS sr H I t) (hr : SR sr X.K H0 ρ σ H I) {Q : VK} (q : Post sr X.K H I t' r Q) : wE X (.BoolOp op (y :: rest) p) σ H Q := by
  rcases h with ⟨rfl, h⟩ | h
  · exact wE.of (pe_one (pe_w y)) (B.ex g he hs hr ib h q)
  · exact B.ex g he hs hr ib h q
def wR (X : Cx) (op : PySem.BoolOp) (y : Expr) (rest : List Expr) (p : Pos) : TT := fun σ H Q => ∀ whole (pins : List (Addr × Obj)) (s : Shared), Inv X pins σ H s → wpAny (model X.prog X.w) X.A (isTrue (.BoolOp op (y :: rest) p) X.env whole) (TP X pins σ Q) X.xe s
theorem rest_ts {op : PySem.BoolOp} {b : C} (B : Snd sr O F T b) {n : Nat} {X : Cx} (g : GX sr O F T n X) {y : Expr} {rest : List Expr} {p : Pos} (ib : isIt b = false) (h : RestB op T X.N X.env.scope b y rest p) {ρ : Rho} {t t' : τ} {r : R} (he : ev O F b ρ t = some (r, t'))
    {σ : L2.St} {H I H0 : Hp} (hs : HS sr H I t) (hr : SR sr X.K H0 ρ σ H I) {k : Bool} (hb : truth r.d = some k) {Q : Bool → Hp → Prop} (q : ∀ H' I', HS sr H' I' t' → Ext sr H I H' I' → Q k H') : wW X (.BoolOp op (y :: rest) p) σ H Q := by
  rcases h with ⟨rfl, h⟩ | h
  · intro wh pins s J
    exact (pw_one (pt_w y)).run wh pins s σ H Q J (B.ts g he hs hr ib h hb q)
  · intro wh pins s J
    exact (pw_bool (pt_w _)).run wh pins s σ H Q J (B.ts g he hs hr ib h hb q)
theorem ra_flat {K : PySem.W.Frag} {H I H1 I1 : Hp} {t1 : τ} {ra : R} {d : D} {Q : VK} {v : V} (p : Post sr K H I t1 (.v d) Q) (hs1 : HS sr H1 I1 t1) (x1 : Ext sr H I H1 I1) (rr : RR sr K H H1 I1 v ra) (e : ra.st = some d) : Q v H1 := by
  obtain ⟨J, hsJ, xJ, rep⟩ := rr.frz hs1 x1 e
  exact p v H1 J hsJ xJ rep
theorem st_d {r : R} {d : D} (h : r.st = some d) : r.d = d := by
  cases r <;> cases h <;> rfl
theorem s_and {a b : C} (A : Snd sr O F T a) (B : Snd sr O F T b) : Snd sr O F T (.and_ a b) := by
  refine .mk1 rfl (fun {n X} g {ρ t r t'} he {σ H I H0} hs hr {e} _ hc {Q} p => ?_) fun {n X} g {ρ t r t'} he {σ H I H0} hs hr {e b'} _ hc hb {Q} q => ?_
  · obtain ⟨x, y, rest, k, rfl, h1, h2, h3, h4⟩ := chk_and hc
    simp only [ev] at he
    obtain ⟨ra, t1, e1, he⟩ := bd_eq he
    refine wE.of (pe_andT (pe_w x) (pe_w _)) ?_
    refine A.ex g e1 hs hr h1 h3 fun v H1 I1 hs1 x1 rr => ?_
    split at he
    · rename_i zt
      exact ⟨true, tru_of zt hs1 rr.w, iteT (rest_ex B g h2 h4 he hs1 (hr.ext x1) (p.after hs hs1 x1))⟩
    · rename_i zt
      simp only [Option.map_eq_some_iff] at he
      obtain ⟨d, hd, z⟩ := he
      cases z
      exact ⟨false, tru_of zt hs1 rr.w, iteF (ra_flat p hs1 x1 rr hd)⟩
    · cases he
  · obtain ⟨x, y, rest, k, rfl, h1, h2, h3, h4⟩ := chk_and hc
    simp only [ev] at he
    obtain ⟨ra, t1, e1, he⟩ := bd_eq he
    refine wT.of (PW.pt (pw_and (pt_w x) (pw_w _))) ?_
    split at he
    · rename_i zt
      exact A.ts g e1 hs hr h1 h3 zt fun H1 I1 hs1 x1 => iteT (rest_ts B g h2 h4 he hs1 (hr.ext x1) hb fun H2 I2 hs2 x2 => q H2 I2 hs2 (x1.trans hs1 hs2 x2))
    · rename_i zt
      simp only [Option.map_eq_some_iff] at he
      obtain ⟨d, hd, z⟩ := he
      cases z
      rw [st_d hd] at zt
      have hb' : truth d = some b' := hb
      rw [zt] at hb'
      cases hb'
      exact A.ts g e1 hs hr h1 h3 (by rw [st_d hd]; exact zt) fun H1 I1 hs1 x1 => iteF (q H1 I1 hs1 x1)
    · cases he
theorem s_or {a b : C} (A : Snd sr O F T a) (B : Snd sr O F T b) : Snd sr O F T (.or_ a b) := by
  refine .mk1 rfl (fun {n X} g {ρ t r t'} he {σ H I H0} hs hr {e} _ hc {Q} p => ?_) fun {n X} g {ρ t r t'} he {σ H I H0} hs hr {e b'} _ hc hb {Q} q => ?_
  · obtain ⟨x, y, rest, k, rfl, h1, h2, h3, h4⟩ := chk_or hc
    simp only [ev] at he
    obtain ⟨ra, t1, e1, he⟩ := bd_eq he
    refine wE.of (pe_orT (pe_w x) (pe_w _)) ?_
    refine A.ex g e1 hs hr h1 h3 fun v H1 I1 hs1 x1 rr => ?_
    split at he
    · rename_i zt
      simp only [Option.map_eq_some_iff] at he
      obtain ⟨d, hd, z⟩ := he
      cases z
      exact ⟨true, tru_of zt hs1 rr.w, iteT (ra_flat p hs1 x1 rr hd)⟩
    · rename_i zt
      exact ⟨false, tru_of zt hs1 rr.w, iteF (rest_ex B g h2 h4 he hs1 (hr.ext x1) (p.after hs hs1 x1))⟩
    · cases he
  · obtain ⟨x, y, rest, k, rfl, h1, h2, h3, h4⟩ := chk_or hc
    simp only [ev] at he
    obtain ⟨ra, t1, e1, he⟩ := bd_eq he
    refine wT.of (PW.pt (pw_or (pt_w x) (pw_w _))) ?_
    split at he
    · rename_i zt
      simp only [Option.map_eq_some_iff] at he
      obtain ⟨d, hd, z⟩ := he
      cases z
      rw [st_d hd] at zt
      have hb' : truth d = some b' := hb
      rw [zt] at hb'
      cases hb'
      exact A.ts g e1 hs hr h1 h3 (by rw [st_d hd]; exact zt) fun H1 I1 hs1 x1 => iteT (q H1 I1 hs1 x1)
    · rename_i zt
      exact A.ts g e1 hs hr h1 h3 zt fun H1 I1 hs1 x1 => iteF (rest_ts B g h2 h4 he hs1 (hr.ext x1) hb fun H2 I2 hs2 x2 => q H2 I2 hs2 (x1.trans hs1 hs2 x2))
    · cases he

/-! ### calls -/
theorem s_call {f : Nat} {a : C} (A : Snd sr O F T a) : Snd sr O F T (.call f a) := by
  refine .mk0 rfl (fun h => ?_) fun {n X} g {ρ t r t'} he {σ H I H0} hs hr {e} _ hc {Q} p => ?_
  · obtain ⟨x, q, y, ys, q', rfl, _⟩ := chk_call h; rfl
  · obtain ⟨x, q, y, ys, q', rfl, h0, h1, h2, h3, hP, h4, h5⟩ := chk_call hc
    simp only [ev] at he
    obtain ⟨ra, t1, e1, he⟩ := bd_eq he
    obtain ⟨fa, fd, ps, np, m1, m2, m3, m4, m5⟩ := g.tab.fn f x h0 h1
    obtain ⟨a1, b1, rfl, k1, k2, k3, k4, k5⟩ : ∃ a1 b1, a = .cons a1 b1 ∧ nonStar y = true ∧ isIt a1 = false ∧ chk T X.N a1 X.env.scope [y] = true ∧ isL b1 = true ∧ chk T X.N b1 X.env.scope ys = true := by
      cases a <;> first | (cases h4; done) | (exact absurd hP Bool.false_ne_true) | skip
      · exact absurd h5 Bool.false_ne_true
      · obtain ⟨_, _, z, r⟩ := chk_cons h5
        cases z
        exact ⟨_, _, rfl, r⟩
    refine wE.of (pe_callG m5 g.gd g.rm h2 m1 m2 m3 (pa_w _) h3 (star_cons k1) (star_plain (show isP b1 = true from hP) k5)) ?_
    refine A.ls g e1 hs hr h4 h5 fun vs ds H1 I1 hv hs1 x1 rs => ?_
    subst hv
    simp only [R.d_v] at he
    refine ⟨?_, I1, t1, ds, r, t', hs1, rs, he, p.after hs hs1 x1⟩
    rw [rs.length]
    exact Decidable.byContradiction fun z => by rw [m4 ds t1 z] at he; cases he
theorem s_pick {a m : C} (A : Snd sr O F T a) (B : Snd sr O F T m) : Snd sr O F T (.pick a m) := by
  refine .mk0 rfl (fun h => ?_) fun {n X} g {ρ t r t'} he {σ H I H0} hs hr {e} _ hc {Q} p => ?_
  · obtain ⟨q, y, z, q', rfl, _⟩ := chk_two h (.inl ⟨rfl, rfl⟩); rfl
  · obtain ⟨q, y, z, q', rfl, h2, h3, h4, h5, h6, h7, h8⟩ := chk_two hc (.inl ⟨rfl, rfl⟩)
    simp only [ev] at he
    obtain ⟨ra, t1, e1, he⟩ := bd_eq he
    obtain ⟨rb, t2, e2, he⟩ := bd_eq he
    obtain ⟨fa, fd, ps, m1, m2, m3, m5⟩ := g.tab.pk
    refine wE.of (pe_callG m5 g.gd g.rm h2 m1 m2 m3 (pa_cons (pe_w y) (pa_cons (pe_w z) pa_nil (star_cons h4)) (star_cons h3)) (by decide) (star_cons h3) (by rw [star_cons h4]; rfl)) ?_
    refine two A.ex B.ex g e1 e2 hs hr h5 h6 h7 h8 fun v w H2 I2 hs2 x2 wv ww => ?_
    split at he
    · rename_i i z1 z2
      split at he
      · rename_i zi
        cases he
        have k1 := wv.src hs2.sub z1
        have k2 := ww.int hs2.sub z2
        subst k1 k2
        exact ⟨I2, t2, i, rfl, zi, hs2, p.after hs hs2 x2⟩
      · cases he
    · cases he
theorem bl_of {n : Nat} {X : Cx} (g : GX sr O F T n X) {x : Str} (h : x ∈ bnames) : X.mg x = none := g.tab.bl x h
theorem s_b1 {f : B1} {a : C} (A : Snd sr O F T a) : Snd sr O F T (.b1 f a) := by
  refine .mk0 rfl (fun h => ?_) fun {n X} g {ρ t r t'} he {σ H I H0} hs hr {e} _ hc {Q} p => ?_
  · obtain ⟨q, y, q', rfl, _⟩ := chk_b1 h; rfl
  · obtain ⟨q, y, q', rfl, h2, h3, h4, h5⟩ := chk_b1 hc
    simp only [ev] at he
    obtain ⟨ra, t1, e1, he⟩ := bd_eq he
    simp only [Option.map_eq_some_iff] at he
    obtain ⟨r', hk, z⟩ := he
    cases z
    have hm : X.mg (b1n f) = none := bl_of g (by cases f <;> simp [b1n, bnames])
    have rd : tCB (rB1 sr X.K t' f) (tCons (wE X y) tNil) σ H Q := A.ex g e1 hs hr h4 h5 fun v H1 I1 hs1 x1 rr => ⟨v, I1, ra, _, rfl, hs1, rr.w, hk, p.after hs hs1 x1⟩
    have hn : b1n f ≠ "__name__" := by cases f <;> decide
    have hd : (b1n f == ("__debug__" : Str)) = false := by cases f <;> decide
    have pa := pa_cons (pe_w (X := X) y) pa_nil (star_cons h3)
    have ok := b1_ok (sr := sr) (t := t') (f := f) g.calm g.gd g.hu
    cases f with
    | len => exact wE.of (pe_callB ok h2 hm (by decide +kernel) pa hn hd (star_cons h3) rfl) rd
    | abs => exact wE.of (pe_callB ok h2 hm (by decide +kernel) pa hn hd (star_cons h3) rfl) rd
    | all => exact wE.of (pe_callB ok h2 hm (by decide +kernel) pa hn hd (star_cons h3) rfl) rd
    | any => exact wE.of (pe_callB ok h2 hm (by decide +kernel) pa hn hd (star_cons h3) rfl) rd
    | sum => exact wE.of (pe_callB ok h2 hm (by decide +kernel) pa hn hd (star_cons h3) rfl) rd
    | tuple => exact wE.of (pe_callTy ok h2 hm (by decide +kernel) pa hn hd (star_cons h3) rfl) rd
    | list => exact wE.of (pe_callTy ok h2 hm (by decide +kernel) pa hn hd (star_cons h3) rfl) rd
    | repr => exact wE.of (pe_callB ok h2 hm (by decide +kernel) pa hn hd (star_cons h3) rfl) rd
    | max => exact wE.of (pe_callB ok h2 hm (by decide +kernel) pa hn hd (star_cons h3) rfl) rd
    | min => exact wE.of (pe_callB ok h2 hm (by decide +kernel) pa hn hd (star_cons h3) rfl) rd
    | sorted => exact wE.of (pe_callB ok h2 hm (by decide +kernel) pa hn hd (star_cons h3) rfl) rd
    | int => exact wE.of (pe_callTy ok h2 hm (by decide +kernel) pa hn hd (star_cons h3) rfl) rd
theorem s_b2 {f : B2} {a b : C} (A : Snd sr O F T a) (B : Snd sr O F T b) : Snd sr O F T (.b2 f a b) := by
  refine .mk0 rfl (fun h => ?_) fun {n X} g {ρ t r t'} he {σ H I H0} hs hr {e} _ hc {Q} p => ?_
  · obtain ⟨y, z, p1, q', rfl, _⟩ := chk_b2 h; rfl
  · obtain ⟨q, y, z, q', rfl, hT, h2, h3, h4, h5, h6, h7, h8⟩ := chk_b2 hc
    simp only [ev] at he
    obtain ⟨ra, t1, e1, he⟩ := bd_eq he
    obtain ⟨rb, t2, e2, he⟩ := bd_eq he
    simp only [Option.map_eq_some_iff] at he
    obtain ⟨r', hk, zz⟩ := he
    cases zz
    have rd : tCB (rB2 sr X.K t' f) (tCons (wE X y) (tCons (wE X z) tNil)) σ H Q := two A.ex B.ex g e1 e2 hs hr h5 h6 h7 h8 fun v w H2 I2 hs2 x2 wv ww => ⟨v, w, I2, ra, rb, _, rfl, hs2, wv, ww, hk, p.after hs hs2 x2⟩
    have hn : b2n f ≠ "__name__" := by cases f <;> decide
    have hd : (b2n f == ("__debug__" : Str)) = false := by cases f <;> decide
    have pa := pa_cons (pe_w (X := X) y) (pa_cons (pe_w (X := X) z) pa_nil (star_cons h4)) (star_cons h3)
    have ok := b2_ok (sr := sr) (t := t') (f := f) g.calm
    have pl : (backTo q' (starEach [z] X.env)).any (·.1) = false := by rw [star_cons h4]; rfl
    cases f with
    | max => exact wE.of (pe_callB ok h2 (bl_of g (by simp [b2n, bnames])) (by decide +kernel) pa hn hd (star_cons h3) pl) rd
    | min => exact wE.of (pe_callB ok h2 (bl_of g (by simp [b2n, bnames])) (by decide +kernel) pa hn hd (star_cons h3) pl) rd
    | gcd => exact wE.of (pe_callBfun ok h2 (g.tab.gc (of_decide_eq_true hT)) pa hd (star_cons h3) pl) rd

/-- what type a value has -/
def tyD : D → Option Ty
  | .non => none | .bl _ => some .bool | .int _ => some .int | .str _ => some .str | .tup _ => some .tup | .lst _ => some .lst | .dct _ _ => some .dct | .src => none
theorem ty_rep {X : Cx} {H : Hp} {v : V} {d : D} {ty : Ty} {b : Bool} (h : Rep X.K sr.g1 H v d) (e : isinD ty d = some b) : ∃ t, TyX X.K H v t ∧ PySem.W.kitOne X.K t (.type (tyT ty)) = some b := by
  cases h with
  | non => exact ⟨_, .base .non, by cases ty <;> cases e <;> exact kit_ty (by decide +kernel)⟩
  | bl c => exact ⟨_, .base (.bl c), by cases ty <;> cases e <;> exact kit_ty (by decide +kernel)⟩
  | int c => exact ⟨_, .base (.int c), by cases ty <;> cases e <;> exact kit_ty (by decide +kernel)⟩
  | str c => exact ⟨_, .base (.str c), by cases ty <;> cases e <;> exact kit_ty (by decide +kernel)⟩
  | tup q r =>
    have fin : PySem.W.kitOne X.K (.type "tuple") (.type (tyT ty)) = some b := by cases ty <;> cases e <;> exact kit_ty (by decide +kernel)
    rcases q with (q | ⟨o, q⟩) | ⟨o, its, k, q1, q2, _⟩
    · exact ⟨_, .base (.tup q), fin⟩
    · exact ⟨_, .fTuple q, fin⟩
    · exact ⟨_, .kTuple q1 q2, fin⟩
  | lst q r => exact ⟨_, .base (.lst q), by cases ty <;> cases e <;> exact kit_ty (by decide +kernel)⟩
  | dct q r r' => exact ⟨_, .base (.dK q), by cases ty <;> cases e <;> exact kit_ty (by decide +kernel)⟩
  | src => cases ty <;> cases e
theorem s_isin {ty : Ty} {a : C} (A : Snd sr O F T a) : Snd sr O F T (.isin a ty) := by
  refine .mk0 rfl (fun h => ?_) fun {n X} g {ρ t r t'} he {σ H I H0} hs hr {e} _ hc {Q} p => ?_
  · obtain ⟨q, y, q', q'', rfl, _⟩ := chk_isin h; rfl
  · obtain ⟨q, y, q', q'', rfl, h1, h2, h3, h4, h5⟩ := chk_isin hc
    simp only [ev] at he
    obtain ⟨ra, t1, e1, he⟩ := bd_eq he
    simp only [Option.map_eq_some_iff] at he
    obtain ⟨b, hk, z⟩ := he
    cases z
    have hm : X.mg "isinstance" = none := bl_of g (by simp [bnames])
    have hm2 : X.mg (tyn ty) = none := bl_of g (by cases ty <;> simp [tyn, bnames])
    have hv : bootBuiltins (tyn ty) = some (.type (tyT ty)) := by cases ty <;> decide +kernel
    have hn : tyn ty ≠ "__name__" := by cases ty <;> decide
    have hd : (tyn ty == ("__debug__" : Str)) = false := by cases ty <;> decide
    have pt : PE X (.Name (tyn ty) q') (tC (.ty (tyT ty))) := pe_bltn h2 hm2 hv rfl hn hd
    refine wE.of (pe_callB call_isi h1 hm (by decide +kernel) (pa_cons (pe_w y) (pa_cons pt pa_nil rfl) (star_cons h3)) (by decide) (by decide) (star_cons h3) rfl) ?_
    refine A.ex g e1 hs hr h4 h5 fun v H1 I1 hs1 x1 rr => ?_
    obtain ⟨tt, k1, k2⟩ := ty_rep (rr.w.rep hs1.sub) hk
    exact ⟨v, _, tt, _, b, rfl, .ty _, k1, k2, (p.after hs hs1 x1).flat hs1 (.bl _)⟩
theorem s_ix {a b : C} (A : Snd sr O F T a) (B : Snd sr O F T b) : Snd sr O F T (.ix a b) := by
  refine .mk0 rfl (fun h => ?_) fun {n X} g {ρ t r t'} he {σ H I H0} hs hr {e} _ hc {Q} p => ?_
  · obtain ⟨x, y, q, rfl, _⟩ := chk_ix h; rfl
  · obtain ⟨x, y, q, rfl, h0, h1, h2, h3, h4⟩ := chk_ix hc
    simp only [ev] at he
    obtain ⟨ra, t1, e1, he⟩ := bd_eq he
    obtain ⟨rb, t2, e2, he⟩ := bd_eq he
    simp only [Option.map_eq_some_iff] at he
    obtain ⟨d, hk, z⟩ := he
    cases z
    refine wE.of (pe_ix (opIx g.hu (sr := sr) (t := t')) (pe_w x) (pe_w y) (plainIx h0)) ?_
    exact two A.ex B.ex g e1 e2 hs hr h1 h2 h3 h4 fun v w H2 I2 hs2 x2 wv ww => ⟨I2, ra, rb, d, hs2, wv, ww, hk, fun u rep => (p.after hs hs2 x2).flat hs2 rep⟩
theorem Reps.rev {K : PySem.W.Frag} {g : Addr} {I : Hp} : ∀ {vs : List V} {ds : List D}, Reps K g I vs ds → Reps K g I vs.reverse ds.reverse
  | _, _, .nil => .nil
  | _, _, .cons a b => by rw [List.reverse_cons, List.reverse_cons]; exact (Reps.rev b).append (.cons a .nil)
theorem s_rev {a : C} (A : Snd sr O F T a) : Snd sr O F T (.rev a) := by
  refine .mk0 rfl (fun h => ?_) fun {n X} g {ρ t r t'} he {σ H I H0} hs hr {e} _ hc {Q} p => ?_
  · obtain ⟨x, k, p1, p2, p3, q, rfl, _⟩ := chk_rev h; rfl
  · obtain ⟨x, k, p1, p2, p3, q, rfl, h1, h2⟩ := chk_rev hc
    simp only [ev] at he
    obtain ⟨ra, t1, e1, he⟩ := bd_eq he
    split at he
    · rename_i xs z
      cases he
      refine wE.of (pe_revL (pe_w x)) ?_
      refine A.ex g e1 hs hr h1 h2 fun v H1 I1 hs1 x1 rr => ?_
      obtain ⟨l, vs, e, q', rs⟩ := rr.w.lst hs1.sub z
      exact ⟨l, vs, e, .inl (.inl q'), fun p' n => (p.after hs hs1 x1).newL hs1 n rs.rev⟩
    · cases he
theorem s_get {a b c : C} (A : Snd sr O F T a) (B : Snd sr O F T b) (Z : Snd sr O F T c) : Snd sr O F T (.get a b c) := by
  refine .mk0 rfl (fun h => ?_) fun {n X} g {ρ t r t'} he {σ H I H0} hs hr {e} _ hc {Q} p => ?_
  · obtain ⟨x, px, ap, y, z, cp, rfl, _⟩ := chk_get h; rfl
  · obtain ⟨x, px, ap, y, z, cp, rfl, h1, h2, h3, h4, h5, h6, h7, h8, h9⟩ := chk_get hc
    simp only [ev] at he
    obtain ⟨ra, t1, e1, he⟩ := bd_eq he
    obtain ⟨rb, t2, e2, he⟩ := bd_eq he
    obtain ⟨rc, t3, e3, he⟩ := bd_eq he
    split at he
    · rename_i ed z1
      simp only [Option.map_eq_some_iff] at he
      obtain ⟨d, hk, zz⟩ := he
      cases zz
      have ed' : ∃ ks ws, ra.d = .dct ks ws := by
        cases hd : ra.d <;> rw [hd] at hk <;> first | (cases hk; done) | exact ⟨_, _, rfl⟩
      obtain ⟨ks, ws, hd⟩ := ed'
      rw [hd] at hk
      have hkey : isKey rb.d = true := by
        cases hq : isKey rb.d with
        | true => rfl
        | false => simp [getD, hq] at hk
      simp only [getD, hkey, if_true, Option.some.injEq] at hk
      have tr : starEach [y, z] X.env = [(false, eval y X.env), (false, eval z X.env)] := by rw [star_cons h2, star_cons h3]; rfl
      refine wE.of (pe_dget2 (by have := g.hu; omega) (pe_w (.Name x px)) (pe_w y) (pe_w z) ⟨rfl, by rw [tr]; rfl, h1, by rw [tr]; rfl⟩) ?_
      refine A.ex g e1 hs hr h4 h7 fun v H1 I1 hs1 x1 rr1 => ?_
      have wv := rr1.w
      obtain ⟨l, kvs, rfl, ql, rk, rw_⟩ := wv.dct hs1.sub hd
      refine ⟨l, rfl, .inl ⟨kvs, .inl ql⟩, ?_⟩
      refine B.ex g e2 hs1 (hr.ext x1) h5 h8 fun w H2 I2 hs2 x2 rr2 => ?_
      refine Z.ex g e3 hs2 ((hr.ext x1).ext x2) h6 h9 fun u H3 I3 hs3 x3 rr3 => ?_
      obtain ⟨J, hsJ, xJ, rep⟩ := rr3.frz hs3 x3 z1
      obtain ⟨l', kvs', e', ql', rk', rw'⟩ := ((wv.ext x2).ext xJ).dct hsJ.sub hd
      cases e'
      have hyr := (rr2.w.ext xJ).keyI hkey
      obtain ⟨k, rfl, hkk⟩ := key_rep hyr hkey
      obtain ⟨v1, v2⟩ := valD_rep hkk rk' rw'
      have pp := p.after hs hsJ ((x1.trans hs1 hs2 x2).trans hs2 hsJ xJ)
      refine ⟨_, DGet.k ql', ?_⟩
      cases hv : valD ks ws rb.d with
      | some d' =>
        obtain ⟨u', hu', ru⟩ := v1 d' hv
        rw [hu']
        rw [hv] at hk
        cases hk
        exact pp.flat hsJ ru
      | none =>
        rw [v2 hv]
        rw [hv] at hk
        cases hk
        exact pp.flat hsJ rep
    · cases he
/-- a slice's part -/
theorem part_ok {b : C} (B : SEx sr O F T b) {n : Nat} {X : Cx} (g : GX sr O F T n X) {l : Option Expr} (ib : isIt b = false) (h : PartC T X.N X.env.scope b l) {ρ : Rho} {t t' : τ} {r : R} (he : ev O F b ρ t = some (r, t')) {o : Option Int} (ho : partD r.d = some o)
    {σ : L2.St} {H I H0 : Hp} (hs : HS sr H I t) (hr : SR sr X.K H0 ρ σ H I) : ∃ tt : TO, PO X l tt ∧ ∀ {Q : Option Int → Hp → Prop}, (∀ H' I', HS sr H' I' t' → Ext sr H I H' I' → Q o H') → tt σ H Q := by
  cases l with
  | none =>
    have hb : b = .non := h
    subst hb
    cases he
    cases ho
    exact ⟨_, po_none, fun q => q H I hs (.refl _ _ _)⟩
  | some e =>
    cases hd : r.d with
    | int i =>
      rw [hd] at ho; cases ho
      exact ⟨_, po_some (pe_w e), fun q => B g he hs hr ib h fun v H1 I1 hs1 x1 rr => ⟨i, rr.w.int hs1.sub hd, q H1 I1 hs1 x1⟩⟩
    | non =>
      rw [hd] at ho; cases ho
      refine ⟨fun σ H Q => wE X e σ H fun v H1 => v = .non ∧ Q none H1, ⟨fun pins s σ H Q J q => ?_⟩, fun q => B g he hs hr ib h fun v H1 I1 hs1 x1 rr => ⟨rr.w.non hs1.sub hd, q H1 I1 hs1 x1⟩⟩
      refine thn (q pins s J) fun u s1 ⟨v, H1, J1, r1, ev, q1⟩ => ?_
      subst ev
      cases r1
      exact ⟨none, H1, J1, .none, q1⟩
    | _ => rw [hd] at ho; cases ho
theorem s_slc {a b c : C} (A : Snd sr O F T a) (B : Snd sr O F T b) (Z : Snd sr O F T c) : Snd sr O F T (.slc a b c) := by
  refine .mk0 rfl (fun h => ?_) fun {n X} g {ρ t r t'} he {σ H I H0} hs hr {e} _ hc {Q} p => ?_
  · obtain ⟨x, l, u, q, q', rfl, _⟩ := chk_slc h; rfl
  · obtain ⟨x, l, u, q, q', rfl, h1, h2, h3, h4, h5, h6⟩ := chk_slc hc
    simp only [ev] at he
    obtain ⟨ra, t1, e1, he⟩ := bd_eq he
    obtain ⟨rl, t2, e2, he⟩ := bd_eq he
    obtain ⟨rh, t3, e3, he⟩ := bd_eq he
    split at he
    · rename_i lo hi z1 z2
      simp only [Option.map_eq_some_iff] at he
      obtain ⟨r', hk, z⟩ := he
      cases z
      -- the three readings are laid along
      intro pins s J
      refine Subscript_ (thn (A.ex (Q := fun v H1 => ∃ I1, HS sr H1 I1 t1 ∧ Ext sr H I H1 I1 ∧ WR sr X.K H1 I1 v ra) g e1 hs hr h1 h4 (fun v H1 I1 hs1 x1 rr => ⟨I1, hs1, x1, rr.w⟩) pins s J) fun v s1 ⟨xv, H1, J1, r1, I1, hs1, x1, wv⟩ => ?_)
      obtain ⟨tl, pl, ql⟩ := part_ok B.ex g h2 h5 e2 z1 hs1 (hr.ext x1)
      refine wpAny_Slice (thn (pl.run pins s1 σ H1 (fun o H2 => o = lo ∧ ∃ I2, HS sr H2 I2 t2 ∧ Ext sr H1 I1 H2 I2) J1 (ql fun H2 I2 hs2 x2 => ⟨rfl, I2, hs2, x2⟩)) fun vl s2 ⟨lo', H2, J2, pl', elo, I2, hs2, x2⟩ => ?_)
      subst elo
      obtain ⟨tu, pu, qu⟩ := part_ok Z.ex g h3 h6 e3 z2 hs2 ((hr.ext x1).ext x2)
      refine thn (pu.run pins s2 σ H2 (fun o H3 => o = hi ∧ ∃ I3, HS sr H3 I3 t' ∧ Ext sr H2 I2 H3 I3) J2 (qu fun H3 I3 hs3 x3 => ⟨rfl, I3, hs3, x3⟩)) fun vu s3 ⟨hi', H3, J3, pu', ehi, I3, hs3, x3⟩ => ?_
      subst ehi
      rw [evalPart_none]
      refine wpAny_pure ?_
      have J4 : Inv X pins σ H3 { s3 with heap := s3.heap.push { cls := .type "slice", data := .fields #[vl, vu, .none] } } := J3.kept (t' := s3.toks) fun b ob q => Heap.get?_push_of_some _ q
      have x13 := (x1.trans hs1 hs2 x2).trans hs2 hs3 x3
      obtain ⟨T', id, hT, ht, hg⟩ := sl_ok (sr := sr) (t := t') pins { s3 with heap := s3.heap.push { cls := .type "slice", data := .fields #[vl, vu, .none] } } σ H3 xv v vl vu lo' hi' s3.heap.objs.size Q J4 r1 (Heap.IsSliceOf.new ..) pl' pu'
        ⟨I3, ra, _, hs3, (wv.ext x2).ext x3, hk, p.after hs hs3 x13⟩
      show wpAny (model X.prog X.w) X.A (subscriptTail x (.Slice l u none q) v (.ref s3.heap.objs.size)) (EP X pins σ Q) X.xe { s3 with heap := s3.heap.push { cls := .type "slice", data := .fields #[vl, vu, .none] } }
      exact tail_any (ops := [.ref s3.heap.objs.size, v]) ht hT hg (by with_unfolding_all rfl)
    · cases he

/-! ### what is walked -/
theorem s_rng1 {a : C} (A : Snd sr O F T a) : Snd sr O F T (.rng1 a) := by
  refine .mkI rfl rfl fun {n X} g {ρ t r t'} he {σ H I H0} hs hr {tg e xs} _ _ hc hx {R'} q => ?_
  obtain ⟨p, y, p', rfl, h1, h2, h3, h4⟩ := chk_one hc (.inl ⟨rfl, rfl⟩)
  simp only [ev] at he
  obtain ⟨ra, t1, e1, he⟩ := bd_eq he
  split at he
  · rename_i j z
    split at he
    · rename_i zj
      cases he
      cases hx
      refine wI.of (pi_range1 h1 (bl_of g (by simp [bnames])) (pa_cons (pe_w y) pa_nil (star_cons h2)) (by rw [star_cons h2]; rfl)) ?_
      refine A.ex g e1 hs hr h3 h4 fun v H1 I1 hs1 x1 rr => ?_
      exact ⟨j, congrArg (· :: []) (rr.w.int hs1.sub z), zj.1, zj.2, q _ H1 I1 hs1 x1 itOk_range⟩
    · cases he
  · cases he
theorem s_rng2 {a b : C} (A : Snd sr O F T a) (B : Snd sr O F T b) : Snd sr O F T (.rng2 a b) := by
  refine .mkI rfl rfl fun {n X} g {ρ t r t'} he {σ H I H0} hs hr {tg e xs} _ _ hc hx {R'} q => ?_
  obtain ⟨p, y, z, p', rfl, h1, h2, h3, h4, h5, h6, h7⟩ := chk_two hc (.inr (.inl ⟨rfl, rfl⟩))
  simp only [ev] at he
  obtain ⟨ra, t1, e1, he⟩ := bd_eq he
  obtain ⟨rb, t2, e2, he⟩ := bd_eq he
  split at he
  · rename_i i j z1 z2
    split at he
    · rename_i zj
      cases he
      cases hx
      have ez : starEach [z] X.env = [(false, eval z X.env)] := by rw [star_cons h3]; rfl
      refine wI.of (pi_range2 h1 (bl_of g (by simp [bnames])) (pa_cons (pe_w y) (pa_cons (pe_w z) pa_nil (star_cons h3)) (star_cons h2)) (by rw [star_cons h2, ez]) ez) ?_
      refine two A.ex B.ex g e1 e2 hs hr h4 h5 h6 h7 fun v w H2 I2 hs2 x2 wv ww => ?_
      have k1 := wv.int hs2.sub z1
      have k2 := ww.int hs2.sub z2
      subst k1 k2
      exact ⟨i, j, rfl, ⟨zj.1.1, zj.1.2, zj.2.1, zj.2.2⟩, q _ H2 I2 hs2 x2 itOk_range⟩
    · cases he
  · cases he
theorem tup_of {e : Expr} (h : isTup e = true) : ∃ xs k p, e = .Tuple xs k p := by
  cases e <;> first | exact absurd h Bool.false_ne_true | exact ⟨_, _, _, rfl⟩
theorem s_enm {a : C} (A : Snd sr O F T a) : Snd sr O F T (.enm a) := by
  refine .mkI rfl rfl fun {n X} g {ρ t r t'} he {σ H I H0} hs hr {tg e xs} _ hp hc hx {R'} q => ?_
  obtain ⟨ts, kk, tp, rfl⟩ := tup_of (hp rfl)
  obtain ⟨p, y, p', rfl, h1, h2, h3, h4⟩ := chk_one hc (.inr ⟨rfl, rfl⟩)
  simp only [ev] at he
  obtain ⟨ra, t1, e1, he⟩ := bd_eq he
  simp only [Option.map_eq_some_iff] at he
  obtain ⟨ys, hk, z⟩ := he
  cases z
  cases hx
  obtain ⟨d, k1, k2⟩ := st_items hk
  refine wI.of (pi_enumA h1 (bl_of g (by simp [bnames])) (pa_cons (pe_w y) pa_nil (star_cons h2)) (by rw [star_cons h2]; rfl)) ?_
  refine A.ex g e1 hs hr h3 h4 fun v H1 I1 hs1 x1 rr => ?_
  obtain ⟨J, hsJ, xJ, rep⟩ := rr.frz hs1 x1 k1
  obtain ⟨l, vs, rfl, rs, k⟩ := rep_items rep k2
  rcases k with ⟨_, k⟩ | ⟨_, k⟩
  · exact ⟨l, vs, rfl, .inl ⟨.inl (.inl (hsJ.sub _ _ k)), q _ H1 J hsJ xJ (itOk_enumL k rs)⟩⟩
  · exact ⟨l, vs, rfl, .inr ⟨sqT_le hsJ.sub k, q _ H1 J hsJ xJ (itOk_enumT k rs)⟩⟩
theorem s_zp {a b : C} (A : Snd sr O F T a) (B : Snd sr O F T b) : Snd sr O F T (.zp a b) := by
  refine .mkI rfl rfl fun {n X} g {ρ t r t'} he {σ H I H0} hs hr {tg e xs} _ hp hc hx {R'} q => ?_
  obtain ⟨ts, kk, tp, rfl⟩ := tup_of (hp rfl)
  obtain ⟨p, y, z, p', rfl, h1, h2, h3, h4, h5, h6, h7⟩ := chk_two hc (.inr (.inr ⟨rfl, rfl⟩))
  simp only [ev] at he
  obtain ⟨ra, t1, e1, he⟩ := bd_eq he
  obtain ⟨rb, t2, e2, he⟩ := bd_eq he
  refine wI.of (RZ.pi_zipA h1 (bl_of g (by simp [bnames])) (pa_cons (pe_w y) (pa_cons (pe_w z) pa_nil (star_cons h3)) (star_cons h2)) (star_cons h2) (by rw [star_cons h3]; rfl)) ?_
  refine A.ex g e1 hs hr h4 h6 fun v H1 I1 hs1 x1 rr => ?_
  split at he
  · rename_i xs' ys' k1 k2
    cases he
    cases hx
    obtain ⟨J, hsJ, xJ, rep⟩ := rr.frz hs1 x1 k1
    refine B.ex g e2 hsJ (hr.ext xJ) h5 h7 fun w H2 I2 hs2 x2 rr2 => ?_
    obtain ⟨J2, hsJ2, xJ2, rep2⟩ := rr2.frz hs2 x2 k2
    cases rep with
    | lst q1 rs =>
      cases rep2 with
      | lst q2 rs2 => exact ⟨_, _, _, _, rfl, .inl ⟨.inl (.inl (hsJ2.sub _ _ (xJ2.im _ _ q1))), .inl (.inl (hsJ2.sub _ _ q2)), q _ H2 J2 hsJ2 (xJ.trans hsJ hsJ2 xJ2) (itOk_zipL (xJ2.im _ _ q1) (rs.le xJ2.im) q2 rs2)⟩⟩
  · rename_i xs' ys' k1 k2
    cases he
    cases hx
    obtain ⟨J, hsJ, xJ, rep⟩ := rr.frz hs1 x1 k1
    refine B.ex g e2 hsJ (hr.ext xJ) h5 h7 fun w H2 I2 hs2 x2 rr2 => ?_
    obtain ⟨J2, hsJ2, xJ2, rep2⟩ := rr2.frz hs2 x2 k2
    cases rep with
    | tup q1 rs =>
      cases rep2 with
      | tup q2 rs2 => exact ⟨_, _, _, _, rfl, .inr ⟨sqT_le hsJ2.sub (sqT_le xJ2.im q1), sqT_le hsJ2.sub q2, q _ H2 J2 hsJ2 (xJ.trans hsJ hsJ2 xJ2) (itOk_zipT (sqT_le xJ2.im q1) (rs.le xJ2.im) q2 rs2)⟩⟩
  · cases he
end PyI

set_option Elab.async false
set_option linter.all false
set_option maxRecDepth 100000
set_option maxHeartbeats 4000000
/-! PyI: targets; comprehensions; every term. -/
namespace PyI
open PySem PySem.Spec PyProof.Rows L2
variable {τ : Type} {sr : Sr τ} {O : Pk τ} {F : Fs τ} {T : Nat → Option Str}

/-! ### slots -/
theorem set_get {α : Type} (l : List α) (i j : Nat) (x : α) : (l.set i x)[j]? = if i = j then (if j < l.length then some x else none) else l[j]? := by
  by_cases h : i = j
  · subst h
    rw [if_pos rfl]
    by_cases hl : i < l.length
    · rw [if_pos hl, List.getElem?_set_self hl]
    · rw [if_neg hl, List.getElem?_eq_none (by simpa using hl)]
  · rw [if_neg h, List.getElem?_set_ne h]
theorem wipeS_len (σ : L2.St) (vs : List Nat) : (L2.wipe σ vs).length = σ.length := wipe_length σ vs
theorem wipeS_get (σ : L2.St) : ∀ (vs : List Nat) (i : Nat), (L2.wipe σ vs)[i]? = if i ∈ vs then (if i < σ.length then some none else none) else σ[i]?
  | [], i => by simp [L2.wipe]
  | v :: vs, i => by
    show ((L2.wipe σ vs).set v none)[i]? = _
    rw [set_get, wipeS_len, wipeS_get σ vs i]
    by_cases h : v = i
    · subst h; simp
    · rw [if_neg h]
      have h' : ¬ i = v := fun e => h e.symm
      simp [h']
theorem wipeR_len (ρ : Rho) : ∀ vs : List Nat, (PyI.wipe ρ vs).length = ρ.length
  | [] => rfl
  | v :: vs => by show ((PyI.wipe ρ vs).set v none).length = _; rw [List.length_set, wipeR_len ρ vs]
theorem wipeR_get (ρ : Rho) : ∀ (vs : List Nat) (i : Nat), (PyI.wipe ρ vs)[i]? = if i ∈ vs then (if i < ρ.length then some none else none) else ρ[i]?
  | [], i => by simp [PyI.wipe]
  | v :: vs, i => by
    show ((PyI.wipe ρ vs).set v none)[i]? = _
    rw [set_get, wipeR_len, wipeR_get ρ vs i]
    by_cases h : v = i
    · subst h; simp
    · rw [if_neg h]
      have h' : ¬ i = v := fun e => h e.symm
      simp [h']
theorem wipe_same {σ σ2 : L2.St} {vs : List Nat} (hl : σ2.length = σ.length) (h : ∀ i, i ∉ vs → σ2[i]? = σ[i]?) : L2.wipe σ2 vs = L2.wipe σ vs := by
  apply List.ext_getElem?
  intro i
  rw [wipeS_get, wipeS_get, hl]
  by_cases hi : i ∈ vs
  · rw [if_pos hi, if_pos hi]
  · rw [if_neg hi, if_neg hi, h i hi]
theorem wipe_wipe (σ : L2.St) (vs : List Nat) : L2.wipe (L2.wipe σ vs) vs = L2.wipe σ vs := wipe_same (wipeS_len _ _) fun i hi => by rw [wipeS_get, if_neg hi]
section
variable {K : PySem.W.Frag} {H0 H I : Hp} {ρ : Rho} {σ : L2.St}
theorem SR.wiped (h : SR sr K H0 ρ σ H I) (vs : List Nat) : SR sr K H0 (PyI.wipe ρ vs) (L2.wipe σ vs) H I := by
  have out : ∀ {i : Nat} {r : R}, (PyI.wipe ρ vs)[i]? = some (some r) → i ∉ vs ∧ ρ[i]? = some (some r) := fun {i r} e => by
    rw [wipeR_get] at e
    by_cases hi : i ∈ vs
    · rw [if_pos hi] at e
      split at e <;> cases e
    · rw [if_neg hi] at e
      exact ⟨hi, e⟩
  have inn : ∀ {i : Nat} {v : Option V}, i ∉ vs → (L2.wipe σ vs)[i]? = σ[i]? := fun {i v} hi => by rw [wipeS_get, if_neg hi]
  refine ⟨by rw [wipeS_len, wipeR_len]; exact h.len, fun i d e => ?_, fun i d e => ?_, fun i j d e l m ne e1 e2 e3 e4 => ?_⟩
  · obtain ⟨hi, e⟩ := out e
    rw [inn (v := none) hi]
    exact h.val i d e
  · obtain ⟨hi, e⟩ := out e
    rw [inn (v := none) hi]
    exact h.own i d e
  · obtain ⟨hi, e1⟩ := out e1
    obtain ⟨hj, e2⟩ := out e2
    rw [inn (v := none) hi] at e3
    rw [inn (v := none) hj] at e4
    exact h.dis i j d e l m ne e1 e2 e3 e4
theorem SR.setV (h : SR sr K H0 ρ σ H I) (i : Nat) {v : V} {d : D} (r : Rep K sr.g1 I v d) : SR sr K H0 (ρ.set i (some (.v d))) (σ.set i (some v)) H I := by
  have out : ∀ {j : Nat} {e : D}, (ρ.set i (some (.v d)))[j]? = some (some (.o e)) → i ≠ j ∧ ρ[j]? = some (some (.o e)) := fun {j e} q => by
    rw [set_get] at q
    by_cases hi : i = j
    · rw [if_pos hi] at q
      split at q
      · injection q with q; injection q with q; cases q
      · cases q
    · rw [if_neg hi] at q
      exact ⟨hi, q⟩
  refine ⟨by rw [List.length_set, List.length_set]; exact h.len, fun j e q => ?_, fun j e q => ?_, fun a b e1 e2 l m ne q1 q2 q3 q4 => ?_⟩
  · rw [set_get] at q ⊢
    by_cases hi : i = j
    · rw [if_pos hi] at q ⊢
      rw [h.len]
      split at q
      · rename_i lt
        rw [if_pos lt]
        injection q with q; injection q with q; injection q with q
        subst q
        exact ⟨v, rfl, r⟩
      · cases q
    · rw [if_neg hi] at q ⊢
      exact h.val j e q
  · obtain ⟨hi, q⟩ := out q
    rw [set_get, if_neg hi]
    exact h.own j e q
  · obtain ⟨n1, q1⟩ := out q1
    obtain ⟨n2, q2⟩ := out q2
    rw [set_get, if_neg n1] at q3
    rw [set_get, if_neg n2] at q4
    exact h.dis a b e1 e2 l m ne q1 q2 q3 q4
theorem SR.setO (h : SR sr K H0 ρ σ H I) (i : Nat) {l : Addr} {d : D} (f : H0 l = none) (n1 : l ≠ sr.g1) (n2 : l ≠ sr.g2) (nI : I l = none) (o : Own K sr.g1 H I l d)
    (fr : ∀ (j : Nat) (e : D), j ≠ i → ρ[j]? = some (some (.o e)) → σ[j]? ≠ some (some (.ref l))) : SR sr K H0 (ρ.set i (some (.o d))) (σ.set i (some (.ref l))) H I := by
  refine ⟨by rw [List.length_set, List.length_set]; exact h.len, fun j e q => ?_, fun j e q => ?_, fun a b e1 e2 k m ne q1 q2 q3 q4 => ?_⟩
  · rw [set_get] at q ⊢
    by_cases hi : i = j
    · rw [if_pos hi] at q
      split at q
      · injection q with q; injection q with q; cases q
      · cases q
    · rw [if_neg hi] at q ⊢
      exact h.val j e q
  · rw [set_get] at q ⊢
    by_cases hi : i = j
    · rw [if_pos hi] at q ⊢
      rw [h.len]
      split at q
      · rename_i lt
        rw [if_pos lt]
        injection q with q; injection q with q; injection q with q
        subst q
        exact ⟨l, rfl, f, n1, n2, nI, o⟩
      · cases q
    · rw [if_neg hi] at q ⊢
      exact h.own j e q
  · rw [set_get] at q1 q2 q3 q4
    by_cases ha : i = a
    · by_cases hb : i = b
      · exact absurd (ha.symm.trans hb) ne
      · rw [if_pos ha] at q3
        rw [if_neg hb] at q2 q4
        split at q3
        · injection q3 with q3; injection q3 with q3; injection q3 with q3
          subst q3
          intro z
          subst z
          exact fr b e2 (fun z => hb z.symm) q2 q4
        · cases q3
    · rw [if_neg ha] at q1 q3
      by_cases hb : i = b
      · rw [if_pos hb] at q4
        split at q4
        · injection q4 with q4; injection q4 with q4; injection q4 with q4
          subst q4
          intro z
          subst z
          exact fr a e1 (fun z => ha z.symm) q1 q3
        · cases q4
      · rw [if_neg hb] at q2 q4
        exact h.dis a b e1 e2 k m ne q1 q2 q3 q4
end

/-! ### targets -/
def lenC : C → Nat | .cons _ b => lenC b + 1 | _ => 0
/-- a, b, .. = a tuple or a list of that length -/
def gTL (K : PySem.W.Frag) (n : Nat) (t : TGs) : TG := fun v σ H Q => gTup K n t v σ H Q ∨ gLst K n t v σ H Q
theorem pg_tl {X : Cx} {pos : Pos} {es : List Expr} {k : Nat} {t : TGs} {n : Nat} (hc : X.calm = true) (h : PGs X es t) (hn : (assignEach es X.env).length = n) (hst : (assignEach es X.env).findIdx? (·.1) = none) : PG X (.Tuple es k pos) (gTL X.K n t) :=
  ⟨fun pins s σ H v u Q I r hw => hw.elim (fun q => (pg_tup hc h hn hst).run pins s σ H v u Q I r q) fun q => (pg_lst hc h hn hst).run pins s σ H v u Q I r q⟩
def gOf (K : PySem.W.Frag) : C → TG × TGs
  | .var i => (gName i, gNil)
  | .tup es => (gTL K (lenC es) (gOf K es).2, gNil)
  | .cons a b => (gName 0, gCons (gOf K a).1 (gOf K b).2)
  | _ => (gName 0, gNil)
theorem each_cons {X : Cx} {t : Expr} {ts : List Expr} (h : nonStar t = true) : assignEach (t :: ts) X.env = (false, assign t X.env) :: assignEach ts X.env := by
  cases t <;> first | rfl | cases h
/-- what a scope's names are in the text's run -/
def LocOk (X : Cx) (sc : Scope) : Prop := ∀ x, Loc sc x → Loc X.env.scope x ∧ (X.fn x = true ∨ X.env.scope.names.lookup x = some .local)
def okT : C → Bool
  | .var _ => true
  | .tup es => isL es && okT es
  | .nil => true
  | .cons a b => !isL a && okT a && isL b && okT b
  | _ => false
theorem chkT_var {N : List Str} {sc : Scope} {i : Nat} {ts : List Expr} (h : chkT N sc (.var i) ts = true) : ∃ x p, ts = [.Name x p] ∧ N[i]? = some x ∧ Loc sc x := by
  cases ts with
  | nil => exact absurd h Bool.false_ne_true
  | cons t ts =>
    cases t <;> first | exact absurd h Bool.false_ne_true | skip
    cases ts <;> first | exact absurd h Bool.false_ne_true | skip
    have h' : (decide (N[i]? = some _) && locB sc _) = true := h
    simp only [Bool.and_eq_true, decide_eq_true_eq] at h'
    exact ⟨_, _, rfl, h'.1, loc_of h'.2⟩
theorem chkT_tup {N : List Str} {sc : Scope} {a : C} {ts : List Expr} (h : chkT N sc (.tup a) ts = true) : ∃ xs k p, ts = [.Tuple xs k p] ∧ isL a = true ∧ chkT N sc a xs = true := by
  cases ts with
  | nil => exact absurd h Bool.false_ne_true
  | cons t ts =>
    cases t <;> first | exact absurd h Bool.false_ne_true | skip
    cases ts <;> first | exact absurd h Bool.false_ne_true | skip
    have h' : (isL a && chkT N sc a _) = true := h
    rw [Bool.and_eq_true] at h'
    exact ⟨_, _, _, rfl, h'⟩
theorem chkT_cons {N : List Str} {sc : Scope} {a b : C} {ts : List Expr} (h : chkT N sc (.cons a b) ts = true) : ∃ x xs, ts = x :: xs ∧ nonStar x = true ∧ isL a = false ∧ chkT N sc a [x] = true ∧ isL b = true ∧ chkT N sc b xs = true := by
  cases ts with
  | nil => exact absurd h Bool.false_ne_true
  | cons t ts =>
    have h' : (nonStar t && !isL a && chkT N sc a [t] && isL b && chkT N sc b ts) = true := h
    simp only [Bool.and_eq_true, Bool.not_eq_true'] at h'
    exact ⟨_, _, rfl, h'.1.1.1.1, h'.1.1.1.2, h'.1.1.2, h'.1.2, h'.2⟩
theorem chkT_not {N : List Str} {sc : Scope} {a : C} {ts : List Expr} (h : chkT N sc a ts = true) : (∃ i, a = .var i) ∨ (∃ b, a = .tup b) ∨ a = .nil ∨ ∃ b c, a = .cons b c := by
  cases a <;> first
    | exact .inl ⟨_, rfl⟩
    | exact .inr (.inl ⟨_, rfl⟩)
    | exact .inr (.inr (.inl rfl))
    | exact .inr (.inr (.inr ⟨_, _, rfl⟩))
    | (exfalso; cases ts with
       | nil => exact absurd h Bool.false_ne_true
       | cons t ts => cases t <;> first | exact absurd h Bool.false_ne_true | (cases ts <;> exact absurd h Bool.false_ne_true))
theorem okT_of {N : List Str} {sc : Scope} : ∀ {a : C} {ts : List Expr}, chkT N sc a ts = true → okT a = true := by
  intro a
  induction a with
  | var i => intro ts h; rfl
  | nil => intro ts h; rfl
  | tup es ih =>
    intro ts h
    obtain ⟨xs, k, p, _, h1, h2⟩ := chkT_tup h
    show (isL es && okT es) = true
    rw [h1, ih h2]; rfl
  | cons a b iha ihb =>
    intro ts h
    obtain ⟨x, xs, _, _, h1, h2, h3, h4⟩ := chkT_cons h
    show (!isL a && okT a && isL b && okT b) = true
    rw [h1, iha h2, h3, ihb h4]; rfl
  | _ => intro ts h; rcases chkT_not h with ⟨_, z⟩ | ⟨_, z⟩ | z | ⟨_, _, z⟩ <;> cases z
theorem tg_ok {X : Cx} {sc : Scope} (hc : X.calm = true) (hN : X.N.Nodup) (hL : LocOk X sc) : ∀ a : C, (∀ t, isL a = false → chkT X.N sc a [t] = true → PG X t (gOf X.K a).1) ∧
    (∀ ts, isL a = true → chkT X.N sc a ts = true → PGs X ts (gOf X.K a).2 ∧ (assignEach ts X.env).length = lenC a ∧ (assignEach ts X.env).findIdx? (·.1) = none) := by
  intro a
  induction a with
  | var i =>
    refine ⟨fun t _ h => ?_, fun _ h => by cases h⟩
    obtain ⟨x, p, e, h1, h2⟩ := chkT_var h
    cases e
    obtain ⟨k1, k2⟩ := hL _ h2
    exact pg_name hN h1 k1 k2
  | tup es ih =>
    refine ⟨fun t _ h => ?_, fun _ h => by cases h⟩
    obtain ⟨xs, k, p, e, h1, h2⟩ := chkT_tup h
    cases e
    obtain ⟨k1, k2, k3⟩ := ih.2 _ h1 h2
    exact pg_tl hc k1 k2 k3
  | nil =>
    refine ⟨fun _ h => (by cases h), fun ts _ h => ?_⟩
    cases ts with
    | nil => exact ⟨pgs_nil, rfl, rfl⟩
    | cons _ _ => exact absurd h Bool.false_ne_true
  | cons a b iha ihb =>
    refine ⟨fun _ h => (by cases h), fun ts _ h => ?_⟩
    obtain ⟨t, ts, rfl, h1, h2, h3, h4, h5⟩ := chkT_cons h
    have A := iha.1 t h2 h3
    obtain ⟨B1, B2, B3⟩ := ihb.2 ts h4 h5
    refine ⟨pgs_cons A B1 (by rw [each_cons h1]; rfl), by rw [each_cons h1, List.length_cons, B2]; rfl, ?_⟩
    rw [each_cons h1, List.findIdx?_cons, B3]
    rfl
  | scons a b => exact ⟨fun _ h => (by cases h), fun ts _ h => (by rcases chkT_not h with ⟨_, z⟩ | ⟨_, z⟩ | z | ⟨_, _, z⟩ <;> cases z)⟩
  | _ => exact ⟨fun _ _ h => (by rcases chkT_not h with ⟨_, z⟩ | ⟨_, z⟩ | z | ⟨_, _, z⟩ <;> cases z), fun _ h => (by cases h)⟩

/-- a value that is stored: plain, or held by nobody else -/
def InR (sr : Sr τ) (K : PySem.W.Frag) (H0 : Hp) (ρ : Rho) (σ : L2.St) (H I : Hp) (v : V) : R → Prop
  | .v d => Rep K sr.g1 I v d
  | .o d => ∃ l, v = .ref l ∧ H0 l = none ∧ l ≠ sr.g1 ∧ l ≠ sr.g2 ∧ I l = none ∧ Own K sr.g1 H I l d ∧ ∀ (j : Nat) (e : D), ρ[j]? = some (some (.o e)) → σ[j]? ≠ some (some (.ref l))
  | .k _ => False
theorem bindT_len : ∀ (a : C), isL a = true → okT a = true → ∀ (ds : List D) (ρ ρ1 : Rho), bindT a (.v (.lst ds)) ρ = some ρ1 → ds.length = lenC a := by
  intro a
  induction a with
  | nil =>
    intro _ _ ds ρ ρ1 h
    cases ds with
    | nil => rfl
    | cons _ _ => cases h
  | cons a b iha ihb =>
    intro _ ok ds ρ ρ1 h
    have ok' : (!isL a && okT a && isL b && okT b) = true := ok
    simp only [Bool.and_eq_true, Bool.not_eq_true'] at ok'
    cases ds with
    | nil => cases h
    | cons d ds =>
      simp only [bindT, Option.bind_eq_some_iff] at h
      obtain ⟨ρ2, _, h2⟩ := h
      exact congrArg (· + 1) (ihb ok'.1.2 ok'.2 ds ρ2 ρ1 h2)
  | scons a b => intro _ ok; cases ok
  | _ => intro h; cases h
theorem bind_ok {K : PySem.W.Frag} {H0 H I : Hp} {t : τ} (hs : HS sr H I t) : ∀ (a : C), okT a = true →
    (∀ (r : R) (ρ ρ1 : Rho) (v : V) (σ : L2.St), isL a = false → bindT a r ρ = some ρ1 → SR sr K H0 ρ σ H I → InR sr K H0 ρ σ H I v r → ∀ {Q : L2.St → Hp → Prop},
      (∀ σ1, SR sr K H0 ρ1 σ1 H I → σ1.length = σ.length → (∀ own, tgIn own a = true → ∀ (i : Nat), i ∉ own → σ1[i]? = σ[i]?) → Q σ1 H) → (gOf K a).1 v σ H Q) ∧
    (∀ (ds : List D) (ρ ρ1 : Rho) (vs : List V) (σ : L2.St), isL a = true → bindT a (.v (.lst ds)) ρ = some ρ1 → SR sr K H0 ρ σ H I → Reps K sr.g1 I vs ds → ∀ {Q : L2.St → Hp → Prop},
      (∀ σ1, SR sr K H0 ρ1 σ1 H I → σ1.length = σ.length → (∀ own, tgIn own a = true → ∀ (i : Nat), i ∉ own → σ1[i]? = σ[i]?) → Q σ1 H) → (gOf K a).2 vs σ H Q) := by
  intro a
  induction a with
  | var i =>
    intro _
    refine ⟨fun r ρ ρ1 v σ _ hb hr hv Q q => ?_, fun _ _ _ _ _ h => (by cases h)⟩
    have stay : ∀ (u : Option V) (own : List Nat), tgIn own (.var i) = true → ∀ (j : Nat), j ∉ own → (σ.set i u)[j]? = σ[j]? := fun u own ho j hj => by
      have hi : i ∈ own := by simpa [tgIn] using ho
      rw [set_get, if_neg (fun e => hj (by rw [← e]; exact hi))]
    cases r with
    | v d =>
      cases hb
      exact q _ (hr.setV i hv) (by rw [List.length_set]) (stay _)
    | o d =>
      cases hb
      obtain ⟨l, rfl, f, n1, n2, nI, o, fr⟩ := hv
      exact q _ (hr.setO i f n1 n2 nI o fun j e _ => fr j e) (by rw [List.length_set]) (stay _)
    | k d => exact hv.elim
  | tup es ih =>
    intro ok
    have ok' : (isL es && okT es) = true := ok
    rw [Bool.and_eq_true] at ok'
    refine ⟨fun r ρ ρ1 v σ _ hb hr hv Q q => ?_, fun _ _ _ _ _ h => (by cases h)⟩
    simp only [bindT] at hb
    split at hb
    · rename_i ds e
      have hv' : Rep K sr.g1 I v (.tup ds) := by
        cases r with
        | v d => cases e; exact hv
        | o d => cases e; obtain ⟨l, _, _, _, _, _, o, _⟩ := hv; exact o.elim
        | k d => cases e
      cases hv' with
      | tup qt rs =>
        exact .inl ⟨_, _, rfl, sqT_le hs.sub qt, rs.length.trans (bindT_len es ok'.1 ok'.2 ds ρ ρ1 hb), (ih ok'.2).2 ds ρ ρ1 _ σ ok'.1 hb hr rs q⟩
    · rename_i ds e
      have hv' : ∃ l vs, v = .ref l ∧ H l = some (.lst vs) ∧ Reps K sr.g1 I vs ds := by
        cases r with
        | v d =>
          cases e
          cases (show Rep K sr.g1 I v (.lst ds) from hv) with
          | lst q' rs => exact ⟨_, _, rfl, hs.sub _ _ q', rs⟩
        | o d =>
          cases e
          obtain ⟨l, rfl, _, _, _, _, ⟨vs, q', rs⟩, _⟩ := hv
          exact ⟨l, vs, rfl, q', rs⟩
        | k d => cases e
      obtain ⟨l, vs, rfl, q', rs⟩ := hv'
      exact .inr ⟨l, vs, rfl, .inl (.inl q'), rs.length.trans (bindT_len es ok'.1 ok'.2 ds ρ ρ1 hb), (ih ok'.2).2 ds ρ ρ1 _ σ ok'.1 hb hr rs q⟩
    · cases hb
  | nil =>
    intro _
    refine ⟨fun _ _ _ _ _ h => (by cases h), fun ds ρ ρ1 vs σ _ hb hr rs Q q => ?_⟩
    cases ds with
    | nil =>
      cases hb
      cases rs
      exact ⟨rfl, q σ hr rfl fun _ _ _ _ => rfl⟩
    | cons d ds => cases hb
  | cons a b iha ihb =>
    intro ok
    have ok' : (!isL a && okT a && isL b && okT b) = true := ok
    simp only [Bool.and_eq_true, Bool.not_eq_true'] at ok'
    obtain ⟨⟨⟨o1, o2⟩, o3⟩, o4⟩ := ok'
    refine ⟨fun _ _ _ _ _ h => (by cases h), fun ds ρ ρ1 vs σ _ hb hr rs Q q => ?_⟩
    cases ds with
    | nil => cases hb
    | cons d ds =>
      simp only [bindT, Option.bind_eq_some_iff] at hb
      obtain ⟨ρ2, hb1, hb2⟩ := hb
      cases rs with
      | cons r1 rs =>
        rename_i v vs
        refine ⟨v, vs, rfl, (iha o2).1 (.v d) ρ ρ2 v σ o1 hb1 hr r1 fun σ1 sr1 l1 s1 => (ihb o4).2 ds ρ2 ρ1 vs σ1 o3 hb2 sr1 rs fun σ2 sr2 l2 s2 => q σ2 sr2 (l2.trans l1) fun own ho i hi => ?_⟩
        have ho' : (tgIn own a && tgIn own b) = true := ho
        rw [Bool.and_eq_true] at ho'
        rw [s2 own ho'.2 i hi, s1 own ho'.1 i hi]
  | _ => intro h; cases h
end PyI

set_option Elab.async false
set_option linter.all false
set_option maxRecDepth 100000
set_option maxHeartbeats 4000000
/-! PyI: comprehensions; every term. -/
namespace PyI
open PySem PySem.Spec PyProof.Rows L2
variable {τ : Type} {sr : Sr τ} {O : Pk τ} {F : Fs τ} {T : Nat → Option Str}

def nonSet : Expr → Bool | .Set _ _ _ => false | _ => true
theorem nonSet_of {N : List Str} {c : C} {sc : Scope} {e : Expr} (hl : isL c = false) (h : chk T N c sc [e] = true) : nonSet e = true := by
  cases e <;> first | rfl | skip
  cases c <;> first | (cases hl; done) | exact absurd h Bool.false_ne_true
theorem folded {e : Expr} (h : nonSet e = true) (env : PySem.Env) : ∀ x, foldedSetIterable e env x = pure x := by
  cases e <;> first | (intro _; rfl) | cases h
theorem chk_nonStar {N : List Str} {c : C} {sc : Scope} {e : Expr} (h : chk T N c sc [e] = true) : True := trivial
theorem HS.setD {H I : Hp} {t : τ} {D : Addr} {o : HO} (h : HS sr H I t) (nI : I D = none) (n1 : D ≠ sr.g1) (n2 : D ≠ sr.g2) : HS sr (upd H D o) I t :=
  ⟨fun a x e => by
      have ne : a ≠ D := fun z => by rw [z, nI] at e; cases e
      rw [upd_ne ne]; exact h.sub a x e,
    h.i1, h.i2, by rw [upd_ne n1.symm]; exact h.a1, by rw [upd_ne n2.symm]; exact h.a2⟩
theorem Ext.setD {H1 I1 H I : Hp} {D : Addr} {o : HO} (x : Ext sr H1 I1 H I) (hD : H1 D = none) : Ext sr H1 I1 (upd H D o) I :=
  ⟨x.im, fun a u e n1 n2 => by
      have ne : a ≠ D := fun z => by rw [z, hD] at e; cases e
      rw [upd_ne ne]; exact x.keep a u e n1 n2, x.new⟩
theorem own_snd (N : List Str) (own : List Nat) : (ownOf N own).map (·.2) = own := by
  unfold ownOf
  rw [List.map_map]
  induction own with
  | nil => rfl
  | cons x xs ih => rw [List.map_cons, ih]; rfl
theorem loc_blk {X : Cx} {scope : Scope} {s : Shared} {H : Hp} {C : Addr} {cl : List (Str × Addr)} {fp : List Addr} : LocOk (X.blk s H scope (compEnvC scope cl C X.env) fp) scope := fun x h => by
  rcases h with h | h
  · have k : (relS scope X.env.scope).names.lookup x = some .local := lookup_relS_keep (by decide) h
    exact ⟨.inl k, .inr k⟩
  · have k : (relS scope X.env.scope).names.lookup x = some .cell := lookup_relS_keep (by decide) h
    refine ⟨.inr k, .inl ?_⟩
    show (scope.names.lookup x == some .cell) = true
    rw [h]; rfl
theorem gx_blk {n : Nat} {X : Cx} (g : GX sr O F T n X) {scope : Scope} {s : Shared} {H : Hp} {C : Addr} {cl : List (Str × Addr)} {fp : List Addr} : GX sr O F T n (X.blk s H scope (compEnvC scope cl C X.env) fp) :=
  ⟨g.calm, g.gd, g.rm, g.nd, rfl, g.tab⟩
/-- one turn's plain reckoning -/
def turnD (O : Pk τ) (F : Fs τ) (own : List Nat) (elt tg test : C) (ρ : Rho) : D → τ → Option (Option D × τ) := fun x t => match bindT tg (.v x) (PyI.wipe ρ own) with
  | some ρ1 => bd (ev O F test ρ1 t) fun rt t1 => match truth rt.d with
    | some true => bd (ev O F elt ρ1 t1) fun r t2 => r.st.map fun y => (some y, t2)
    | some false => some (none, t1)
    | none => none
  | none => none
theorem compL_cons {f : D → τ → Option (Option D × τ)} {x : D} {xs ys : List D} {t t' : τ} (h : compL f (x :: xs) t = some (ys, t')) :
    (∃ y t1 r, f x t = some (some y, t1) ∧ compL f xs t1 = some (r, t') ∧ ys = y :: r) ∨ ∃ t1, f x t = some (none, t1) ∧ compL f xs t1 = some (ys, t') := by
  simp only [compL] at h
  split at h
  · rename_i y t1 e
    simp only [Option.map_eq_some_iff] at h
    obtain ⟨p, h1, h2⟩ := h
    cases h2
    exact .inl ⟨y, t1, p.1, e, h1, rfl⟩
  · rename_i t1 e
    exact .inr ⟨t1, e, h⟩
  · cases h

/-- a comprehension's reading -/
theorem comp_rd {own : List Nat} {elt tg it test : C} (E : Snd sr O F T elt) (W : Snd sr O F T it) (Z : Snd sr O F T test) {n : Nat} {X : Cx} (g : GX sr O F T n X) {ρ : Rho} {t t'' : τ} {r : R} (he : ev O F (.comp own elt tg it test) ρ t = some (r, t''))
    {σ : L2.St} {H I H0 : Hp} (hs : HS sr H I t) (hr : SR sr X.K H0 ρ σ H I) {x tt i : Expr} {ifs : List Expr} {scope : Scope} (c1 : isIt elt = false) (c2 : isIt test = false) (c3 : isL it = false) (c4 : prs it = true → isTup tt = true) (c5 : chk T X.N it X.env.scope [i] = true)
    (c6 : BlkOk X.N X.env.scope scope (ownOf X.N own)) (c7 : tgIn own tg = true) (c8 : isL tg = false) (c9 : chkT X.N scope tg [tt] = true) (c10 : (ifs = [] ∧ test = .bl true) ∨ ∃ c, ifs = [c] ∧ chk T X.N test (relS scope X.env.scope) [c] = true) (c11 : chk T X.N elt (relS scope X.env.scope) [x] = true) :
    ∃ (tT : TT) (tE : TE), (∀ (s : Shared) (H : Hp) (C : Addr) (cl : List (Str × Addr)) (fp : List Addr), PG (X.blk s H scope (compEnvC scope cl C X.env) fp) tt (gOf X.K tg).1) ∧
      (∀ (s : Shared) (H : Hp) (C : Addr) (cl : List (Str × Addr)) (fp : List Addr), PTs (X.blk s H scope (compEnvC scope cl C X.env) fp) ifs tT) ∧
      (∀ (s : Shared) (H : Hp) (C : Addr) (cl : List (Str × Addr)) (fp : List Addr), PE (X.blk s H scope (compEnvC scope cl C X.env) fp) x tE) ∧
      ∀ {Q : VK}, Post sr X.K H I t'' r Q → tLc (wI X tt i) (gOf X.K tg).1 tT tE ((ownOf X.N own).map (·.2)) σ H Q := by
    simp only [ev] at he
    obtain ⟨ri, t1, e1, he⟩ := bd_eq he
    split at he
    · rename_i xs hxs
      split at he
      · rename_i hz
        simp only [Option.map_eq_some_iff] at he
        obtain ⟨⟨ys, t2'⟩, hL, z⟩ := he
        cases z
        have hL' : compL (turnD O F own elt tg test ρ) xs t1 = some (ys, t2') := hL
        clear hL
        have okt := okT_of c9
        -- the readings within the block
        let tE : TE := fun σ H Q => ∀ (s0 : Shared) (Hb : Hp) (C : Addr) (cl : List (Str × Addr)) (fp : List Addr), wE (X.blk s0 Hb scope (compEnvC scope cl C X.env) fp) x σ H Q
        let tT : TT := match ifs with
          | [c] => fun σ H Q => ∀ (s0 : Shared) (Hb : Hp) (C : Addr) (cl : List (Str × Addr)) (fp : List Addr), wT (X.blk s0 Hb scope (compEnvC scope cl C X.env) fp) c σ H Q
          | _ => tYes
        have pT : ∀ (s : Shared) (H : Hp) (C : Addr) (cl : List (Str × Addr)) (fp : List Addr), PTs (X.blk s H scope (compEnvC scope cl C X.env) fp) ifs tT := fun s0 Hb C cl fp => by
          rcases c10 with ⟨rfl, _⟩ | ⟨c, rfl, _⟩
          · exact pts_nil
          · exact pts_one ⟨fun pins s σ H Q J h => h s0 Hb C cl fp pins s J⟩
        refine ⟨tT, tE, fun s0 Hb C cl fp => (tg_ok (X := X.blk s0 Hb scope (compEnvC scope cl C X.env) fp) g.calm g.nd loc_blk tg).1 tt c8 c9, pT, fun s0 Hb C cl fp => ⟨fun pins s σ H Q J h => h s0 Hb C cl fp pins s J⟩, fun {Q} p => ?_⟩
        rw [own_snd]
        refine W.it g e1 hs hr c3 c4 c5 hxs fun J H1 I1 hs1 x1 ok D nD => ?_
        have d1 := hs1.ne1 nD
        have d2 := hs1.ne2 nD
        refine ⟨fun k m H2 => k ≤ xs.length ∧ m = xs.length - k ∧ ∃ I2 t2 acc zs rest, HS sr H2 I2 t2 ∧ Ext sr H1 I1 H2 I2 ∧ H2 D = some (.lst acc) ∧ I2 D = none ∧ Reps X.K sr.g1 I2 acc zs ∧ acc.length ≤ k ∧
            compL (turnD O F own elt tg test ρ) (xs.drop k) t2 = some (rest, t2') ∧ zs ++ rest = ys, ⟨xs.length, Nat.zero_le _, rfl, I1, t1, [], [], ys, hs1.newO nD, .newO nD, upd_same, hs1.nI nD, .nil, Nat.le_refl _, hL', rfl⟩, ?_⟩
        rintro k m H2 ⟨hk, rfl, I2, t2, acc, zs, rest, hs2, x2, eD, nI2, rs, la, hc2, ez⟩
        by_cases lt : k < xs.length
        · refine .inr ⟨ok.go H2 I2 t2 k hs2 x2.im lt, fun H' => k + 1 ≤ xs.length ∧ ∃ I2 t2 acc zs rest, HS sr H' I2 t2 ∧ Ext sr H1 I1 H' I2 ∧ H' D = some (.lst acc) ∧ I2 D = none ∧ Reps X.K sr.g1 I2 acc zs ∧ acc.length ≤ k + 1 ∧
              compL (turnD O F own elt tg test ρ) (xs.drop (k + 1)) t2 = some (rest, t2') ∧ zs ++ rest = ys, fun H' ⟨a, b⟩ => ⟨xs.length - (k + 1), by omega, a, rfl, b⟩, fun v H' hy => ?_⟩
          have hd : xs[k]? = some xs[k] := List.getElem?_eq_getElem lt
          obtain ⟨I3, hs3, x3, rep⟩ := ok.yld H2 I2 t2 k xs[k] v H' hs2 x2.im hd hy
          have x13 := x2.trans hs2 hs3 x3
          have eD3 : H' D = some (.lst acc) := x3.keep D _ eD d1 d2
          have nI3 : I3 D = none := none_of fun ⟨o, q⟩ => by
            rcases x3.new D (by rw [q]; simp) with z | z
            · exact z nI2
            · rw [eD] at z; cases z
          rw [List.drop_eq_getElem_cons lt] at hc2
          -- the target
          have srw : SR sr X.K H0 (PyI.wipe ρ own) (L2.wipe σ own) H' I3 := ((hr.ext x1).ext x13).wiped own
          have step : ∃ ρ1, bindT tg (.v xs[k]) (PyI.wipe ρ own) = some ρ1 := by
            rcases compL_cons hc2 with ⟨y, t3, r, f, _⟩ | ⟨t3, f, _⟩ <;> (
              unfold turnD at f
              split at f
              · rename_i ρ1 hb; exact ⟨ρ1, hb⟩
              · cases f)
          obtain ⟨ρ1, hb⟩ := step
          refine (bind_ok hs3 tg okt).1 (.v xs[k]) _ ρ1 v _ c8 hb srw rep fun σ1 sr1 l1 s1 => ⟨?_, ?_⟩
          · rw [← wipe_wipe σ own]
            exact wipe_same l1 (s1 own c7)
          -- the test
          have tst : ∀ (b : Bool) (rt : R) (t3 : τ), ev O F test ρ1 t2 = some (rt, t3) → truth rt.d = some b → ∀ {Q' : Bool → Hp → Prop}, (∀ H4 I4, HS sr H4 I4 t3 → Ext sr H' I3 H4 I4 → Q' b H4) → tT σ1 H' Q' := by
            intro b rt t3 ht hb' Q' q'
            rcases c10 with ⟨rfl, rfl⟩ | ⟨c, rfl, cc⟩
            · cases ht
              cases hb'
              exact q' H' I3 hs3 (.refl _ _ _)
            · intro s0 Hb C cl fp
              exact Z.ts (gx_blk g) ht hs3 sr1 c2 cc hb' q'
          rcases compL_cons hc2 with ⟨y, t3, r3, f, hrest, rfl⟩ | ⟨t3, f, hrest⟩
          · unfold turnD at f
            rw [hb] at f
            obtain ⟨rt, t4, ht, f⟩ := bd_eq f
            split at f
            · rename_i zt
              obtain ⟨ry, t5, hy5, f⟩ := bd_eq f
              simp only [Option.map_eq_some_iff] at f
              obtain ⟨y', hy', f⟩ := f
              cases f
              refine tst true rt t4 ht zt fun H4 I4 hs4 x4 => ?_
              rw [if_pos rfl]
              intro s0 Hb C cl fp
              refine E.ex (gx_blk g) hy5 hs4 (sr1.ext x4) c1 c11 fun w H5 I5 hs5 x5 rr => ?_
              obtain ⟨I6, hs6, x6, rep6⟩ := rr.frz hs5 x5 hy'
              have x46 := x4.trans hs4 hs6 x6
              have eD6 : H5 D = some (.lst acc) := x46.keep D _ eD3 d1 d2
              have nI6 : I6 D = none := none_of fun ⟨o, q⟩ => by
                rcases x46.new D (by rw [q]; simp) with z | z
                · exact z nI3
                · rw [eD3] at z; cases z
              have x16 := x13.trans hs3 hs6 x46
              refine ⟨acc, eD6, by omega, lt, I6, t3, acc ++ [w], zs ++ [y], r3, hs6.setD nI6 d1 d2, x16.setD nD, upd_same, nI6, (rs.le (x3.im.trans x46.im)).append (.cons rep6 .nil), by rw [List.length_append]; simp; exact la, hrest, by simp [← ez]⟩
            · cases f
            · cases f
          · unfold turnD at f
            rw [hb] at f
            obtain ⟨rt, t4, ht, f⟩ := bd_eq f
            split at f
            · obtain ⟨ry, t5, hy5, f⟩ := bd_eq f
              simp only [Option.map_eq_some_iff] at f
              obtain ⟨y', hy', f⟩ := f
              cases f
            · rename_i zt
              cases f
              refine tst false rt t3 ht zt fun H4 I4 hs4 x4 => ?_
              rw [if_neg Bool.false_ne_true]
              have eD4 : H4 D = some (.lst acc) := x4.keep D _ eD3 d1 d2
              have nI4 : I4 D = none := none_of fun ⟨o, q⟩ => by
                rcases x4.new D (by rw [q]; simp) with z | z
                · exact z nI3
                · rw [eD3] at z; cases z
              exact ⟨lt, I4, t3, acc, zs, rest, hs4, x13.trans hs3 hs4 x4, eD4, nI4, rs.le (x3.im.trans x4.im), by omega, hrest, ez⟩
            · cases f
        · have ek : xs.length ≤ k := by omega
          rw [List.drop_of_length_le ek] at hc2
          cases hc2
          rw [List.append_nil] at ez
          subst ez
          refine .inl ⟨ok.stop H2 I2 t2' k hs2 x2.im ek, ?_⟩
          exact p (.ref D) H2 I2 hs2 (x1.trans hs1 hs2 x2) ⟨D, rfl, x1.fresh hs nD d1 d2, d1, d2, nI2, acc, eD, rs⟩
      · cases he
    · cases he

theorem s_comp {own : List Nat} {elt tg it test : C} (E : Snd sr O F T elt) (W : Snd sr O F T it) (Z : Snd sr O F T test) : Snd sr O F T (.comp own elt tg it test) := by
  refine .mk0 rfl (fun h => ?_) fun {n X} g {ρ t r t'} he {σ H I H0} hs hr {e} _ hc {Q} p => ?_
  · obtain ⟨x, tt, i, ifs, scope, q, rfl, _⟩ := chk_comp h; rfl
  · obtain ⟨x, tt, i, ifs, scope, q, rfl, c1, c2, c3, c4, c5, c6, ⟨c7, c8, c9⟩, c10, c11⟩ := chk_comp hc
    obtain ⟨tT, tE, h1, h2, h3, h4⟩ := comp_rd E W Z g he hs hr c1 c2 c3 c4 c5 c6 c7 c8 c9 c10 c11
    exact wE.of (pe_lc g.calm g.nd (pi_w tt i) c6 h1 h2 h3 (folded (nonSet_of c3 c5) _)) (h4 p)

/-- every term -/
theorem snd : ∀ c : C, Snd sr O F T c := by
  intro c
  induction c with
  | var i => exact s_var
  | non => exact s_const rfl (.inr (.inl rfl))
  | bl b => exact s_const rfl (.inl ⟨b, rfl⟩)
  | int i => exact s_const rfl (.inr (.inr (.inl ⟨i, rfl⟩)))
  | str s => exact s_const rfl (.inr (.inr (.inr ⟨s, rfl⟩)))
  | nil => exact s_nil
  | cons a b iha ihb => exact s_cons iha ihb
  | tup es ih => exact s_tup ih
  | lst es ih => exact s_lst ih
  | dnil => exact s_dnil
  | bin op a b iha ihb => exact s_bin iha ihb
  | neg a ih => exact s_neg ih
  | nt a ih => exact s_nt ih
  | and_ a b iha ihb => exact s_and iha ihb
  | or_ a b iha ihb => exact s_or iha ihb
  | cmp op a b iha ihb => exact s_cmp iha ihb
  | isc no a k ih => exact s_isc ih
  | ife c a b ihc iha ihb => exact s_ife ihc iha ihb
  | call f es ih => exact s_call ih
  | pick a m iha ihm => exact s_pick iha ihm
  | b1 f a ih => exact s_b1 ih
  | b2 f a b iha ihb => exact s_b2 iha ihb
  | isin a t ih => exact s_isin ih
  | ix a b iha ihb => exact s_ix iha ihb
  | slc a lo hi iha ihl ihh => exact s_slc iha ihl ihh
  | get a b c iha ihb ihc => exact s_get iha ihb ihc
  | rev a ih => exact s_rev ih
  | scons a b iha ihb => exact s_scons iha ihb
  | comp own elt tg it test ihe iht ihi ihz => exact s_comp ihe ihi ihz
  | rng1 a ih => exact s_rng1 ih
  | rng2 a b iha ihb => exact s_rng2 iha ihb
  | enm a ih => exact s_enm ih
  | zp a b iha ihb => exact s_zp iha ihb
end PyI

set_option Elab.async false
set_option linter.all false
set_option maxRecDepth 100000
set_option maxHeartbeats 4000000
/-! PyI: statements. -/
namespace PyI
open PySem PySem.Spec PyProof.Rows L2
variable {τ : Type} {sr : Sr τ} {O : Pk τ} {F : Fs τ} {T : Nat → Option Str}

/-! ### which text a statement is -/
def isComp : Expr → Bool | .ListComp _ _ _ _ => true | .SetComp _ _ _ _ => true | .DictComp _ _ _ _ _ => true | _ => false
/-- name = [..] on one line -/
def swC (sc : Scope) : Expr → Expr → Bool
  | .Name y py, .ListComp _ _ scope pos => (match sc.names.lookup y with | some .local => true | _ => false) && py.line == pos.line && !(scope.names.any fun p => p.1 == y && (p.2 == .local || p.2 == .cell))
  | _, _ => false
def locl (sc : Scope) (x : Str) : Bool := match sc.names.lookup x with | some .local => true | _ => false
def chkS (T : Nat → Option Str) (N : List Str) (sc : Scope) : S → List Stmt → Bool
  | .asg _ tg e, [.Assign [t] x _] => !isL tg && !isIt e && !(isTup t && isTup x) && chkT N sc tg [t] && chk T N e sc [x]
  | .par _ i j a b, [.Assign [.Tuple [.Name x px, .Name y py] _ _] (.Tuple [u, v] _ _) _] => decide (i ≠ j) && decide (N[i]? = some x) && decide (N[j]? = some y) && locB sc x && locB sc y && nonStar u && nonStar v && !isIt a && !isIt b && chk T N a sc [u] && chk T N b sc [v] &&
      (!(locl sc x && locl sc y && py.line == px.line) || (foldedForSure 8 u && foldedForSure 8 v) || !(constantsAlone 8 u && constantsAlone 8 v))
  | .par3 _ i j l a b c, [.Assign [.Tuple [.Name x px, .Name y py, .Name z pz] _ _] (.Tuple [u, v, w] _ _) _] => decide (i ≠ j) && decide (i ≠ l) && decide (j ≠ l) && decide (N[i]? = some x) && decide (N[j]? = some y) && decide (N[l]? = some z) && locB sc x && locB sc y && locB sc z && nonStar u && nonStar v && nonStar w && !isIt a && !isIt b && !isIt c && chk T N a sc [u] && chk T N b sc [v] && chk T N c sc [w] &&
      (!(locl sc x && locl sc y && locl sc z && py.line == px.line && pz.line == px.line) || (foldedForSure 8 u && foldedForSure 8 v && foldedForSure 8 w) || !(constantsAlone 8 u && constantsAlone 8 v && constantsAlone 8 w))
  | .sto _ i ix e, [.Assign [.Subscript (.Name x _) y _] v _] => decide (N[i]? = some x) && visB sc x && !(x == ("__debug__" : Str)) && !(x == ("__classdict__" : Str)) && !isIt ix && !isIt e && chk T N ix sc [y] && chk T N e sc [v]
  | .app _ i e, [.Expr (.Call (.Attribute (.Name x _) m ap) [v] [] cp) _] => decide (m = "append") && decide (N[i]? = some x) && visB sc x && !(x == ("__debug__" : Str)) && !(x == ("__classdict__" : Str)) && ap.endLine == cp.line && nonStar v && !isIt e && chk T N e sc [v]
  | .ext _ i e, [.Expr (.Call (.Attribute (.Name x _) m ap) [v] [] cp) _] => decide (m = "extend") && decide (N[i]? = some x) && visB sc x && !(x == ("__debug__" : Str)) && !(x == ("__classdict__" : Str)) && ap.endLine == cp.line && nonStar v && !isIt e && chk T N e sc [v]
  | .ex _ e, [.Expr x _] => !isIt e && !isComp x && chk T N e sc [x]
  | .pop none i, [.Expr (.Call (.Attribute (.Name x _) m ap) [] [] cp) _] => decide (m = "pop") && decide (N[i]? = some x) && visB sc x && !(x == ("__debug__" : Str)) && !(x == ("__classdict__" : Str)) && ap.endLine == cp.line
  | .pop (some j) i, [.Assign [.Name y _] (.Call (.Attribute (.Name x _) m ap) [] [] cp) _] => decide (m = "pop") && decide (N[i]? = some x) && visB sc x && !(x == ("__debug__" : Str)) && !(x == ("__classdict__" : Str)) && ap.endLine == cp.line && decide (N[j]? = some y) && locB sc y
  | .ret _ e, [.Return ox _] => partB ox (isNon e) (fun x => !isIt e && chk T N e sc [x])
  | .ifs _ c a b, [.If x l r _] => !isIt c && chk T N c sc [x] && chkS T N sc a l && chkS T N sc b r
  | .whl _ c b, [.While x l [] _] => !isIt c && chk T N c sc [x] && chkS T N sc b l
  | .fr _ tg it b, [.For t x l [] _] => !isL tg && !isL it && (!prs it || isTup t) && chkT N sc tg [t] && chk T N it sc [x] && chkS T N sc b l
  | .brk, [.Break _] => true
  | .cnt, [.Continue _] => true
  | .pas, [.Pass _] => true
  | .pas, [] => true
  | .seq a b, x :: y :: rest => chkS T N sc a [x] && chkS T N sc b (y :: rest)
  | _, _ => false

/-! ### the state between statements -/
structure ST (sr : Sr τ) (K : PySem.W.Frag) (H0 I0 : Hp) (ρ : Rho) (t : τ) (σ : L2.St) (H I : Hp) : Prop where
  hs : HS sr H I t
  x : Ext sr H0 I0 H I
  r : SR sr K H0 ρ σ H I
section
variable {K : PySem.W.Frag} {H0 I0 H I H' I' : Hp} {ρ : Rho} {t t' : τ} {σ : L2.St}
theorem ST.ext (h : ST sr K H0 I0 ρ t σ H I) (hs' : HS sr H' I' t') (x' : Ext sr H I H' I') : ST sr K H0 I0 ρ t' σ H' I' := ⟨hs', h.x.trans h.hs hs' x', h.r.ext x'⟩
theorem ST.frz1 (h : ST sr K H0 I0 ρ t σ H I) (i : Nat) {d : D} (e : ρ[i]? = some (some (.o d))) : ∃ J, Le I J ∧ ST sr K H0 I0 (ρ.set i (some (.v d))) t σ H J := by
  obtain ⟨l, e1, f, n1, n2, nI, o⟩ := h.r.own i d e
  obtain ⟨u, hu⟩ := o.some
  have le : Le I (upd I l u) := Le.upd nI
  have hs' := h.hs.join hu n1 n2
  have rep : Rep K sr.g1 (upd I l u) (.ref l) d := by
    cases d with
    | lst ds =>
      obtain ⟨vs, q, r⟩ := o
      rw [hu] at q; cases q
      exact .lst upd_same (r.le le)
    | dct ks ws =>
      obtain ⟨kvs, q, r, r'⟩ := o
      rw [hu] at q; cases q
      exact .dct upd_same (r.le le) (r'.le le)
    | _ => exact o.elim
  refine ⟨upd I l u, le, hs', ⟨h.x.im.trans le, h.x.keep, fun a q => ?_⟩, ?_⟩
  · by_cases z : a = l
    · exact .inr (by rw [z]; exact f)
    · rw [upd_ne z] at q; exact h.x.new a q
  -- the other names' objects stay apart
  have other : ∀ {j : Nat} {e' : D} {m : Addr}, i ≠ j → ρ[j]? = some (some (.o e')) → σ[j]? = some (some (.ref m)) → m ≠ l := fun {j e' m} ne q1 q2 z => by
    subst z
    exact h.r.dis i j d e' m m ne e q1 e1 q2 rfl
  have out : ∀ {j : Nat} {e' : D}, (ρ.set i (some (.v d)))[j]? = some (some (.o e')) → i ≠ j ∧ ρ[j]? = some (some (.o e')) := fun {j e'} q => by
    rw [set_get] at q
    by_cases hi : i = j
    · rw [if_pos hi] at q
      split at q
      · injection q with q; injection q with q; cases q
      · cases q
    · rw [if_neg hi] at q
      exact ⟨hi, q⟩
  refine ⟨by rw [List.length_set]; exact h.r.len, fun j e' q => ?_, fun j e' q => ?_, fun a b e1' e2' k m ne q1 q2 q3 q4 => ?_⟩
  · rw [set_get] at q
    by_cases hi : i = j
    · subst hi
      rw [if_pos rfl] at q
      split at q
      · injection q with q; injection q with q; injection q with q
        subst q
        exact ⟨_, e1, rep⟩
      · cases q
    · rw [if_neg hi] at q
      obtain ⟨v, a, b⟩ := h.r.val j e' q
      exact ⟨v, a, b.le le⟩
  · obtain ⟨ne, q⟩ := out q
    obtain ⟨m, a1, a2, a3, a4, a5, a6⟩ := h.r.own j e' q
    exact ⟨m, a1, a2, a3, a4, by rw [upd_ne (other ne q a1)]; exact a5, a6.le (fun _ z => z) le⟩
  · obtain ⟨n1, q1⟩ := out q1
    obtain ⟨n2, q2⟩ := out q2
    exact h.r.dis a b e1' e2' k m ne q1 q2 q3 q4
theorem ST.frz (h : ST sr K H0 I0 ρ t σ H I) : ∀ is : List Nat, ∃ J, Le I J ∧ ST sr K H0 I0 (PyI.frz ρ is) t σ H J
  | [] => ⟨I, .refl _, h⟩
  | i :: is => by
    obtain ⟨J, l, k⟩ := ST.frz h is
    show ∃ J, Le I J ∧ ST sr K H0 I0 (match (PyI.frz ρ is)[i]? with | some (some (.o d)) => (PyI.frz ρ is).set i (some (.v d)) | _ => PyI.frz ρ is) t σ H J
    split
    · rename_i d e
      obtain ⟨J2, l2, k2⟩ := k.frz1 i e
      exact ⟨J2, l.trans l2, k2⟩
    · exact ⟨J, l, k⟩
/-- the object that the name i holds is changed -/
theorem ST.setO (h : ST sr K H0 I0 ρ t σ H I) {i : Nat} {d d' : D} {l : Addr} {o : HO} (e : ρ[i]? = some (some (.o d))) (el : σ[i]? = some (some (.ref l))) (ow : ∀ J, J l = some o → Own K sr.g1 J I l d') : ST sr K H0 I0 (ρ.set i (some (.o d'))) t σ (upd H l o) I := by
  obtain ⟨m, e1, f, n1, n2, nI, _⟩ := h.r.own i d e
  rw [el] at e1
  injection e1 with e1; injection e1 with e1; injection e1 with e1
  subst e1
  have lt : i < ρ.length := (List.getElem?_eq_some_iff.mp e).1
  refine ⟨h.hs.setD nI n1 n2, h.x.setD f, by rw [List.length_set]; exact h.r.len, fun j e' q => ?_, fun j e' q => ?_, fun a b e1' e2' k m ne q1 q2 q3 q4 => ?_⟩
  · rw [set_get] at q
    by_cases hi : i = j
    · rw [if_pos hi] at q
      split at q
      · injection q with q; injection q with q; cases q
      · cases q
    · rw [if_neg hi] at q
      exact h.r.val j e' q
  · rw [set_get] at q
    by_cases hi : i = j
    · subst hi
      rw [if_pos rfl, if_pos lt] at q
      injection q with q; injection q with q; injection q with q
      subst q
      exact ⟨l, el, f, n1, n2, nI, ow _ upd_same⟩
    · rw [if_neg hi] at q
      obtain ⟨m, a1, a2, a3, a4, a5, a6⟩ := h.r.own j e' q
      have ne : m ≠ l := fun z => by
        subst z
        exact h.r.dis i j d e' m m hi e q el a1 rfl
      exact ⟨m, a1, a2, a3, a4, a5, a6.le (fun _ z => by rw [upd_ne ne]; exact z) (.refl _)⟩
  · have back : ∀ {j : Nat} {e' : D}, (ρ.set i (some (.o d')))[j]? = some (some (.o e')) → ∃ e'', ρ[j]? = some (some (.o e'')) := fun {j e'} q => by
      rw [set_get] at q
      by_cases hi : i = j
      · subst hi; exact ⟨d, e⟩
      · rw [if_neg hi] at q; exact ⟨e', q⟩
    obtain ⟨_, q1⟩ := back q1
    obtain ⟨_, q2⟩ := back q2
    exact h.r.dis a b _ _ k m ne q1 q2 q3 q4
/-- what an expression gives may be stored -/
theorem ST.inR (h : ST sr K H0 I0 ρ t σ H I) {v : V} {r : R} (hs' : HS sr H' I' t') (x' : Ext sr H I H' I') (rr : RR sr K H H' I' v r) (nk : ∀ d, r ≠ .k d) : InR sr K H0 ρ σ H' I' v r := by
  cases r with
  | v d => exact rr
  | k d => exact absurd rfl (nk d)
  | o d =>
    obtain ⟨l, e, f, n1, n2, nI, o⟩ := rr
    refine ⟨l, e, none_of fun ⟨u, q⟩ => ?_, n1, n2, nI, o, fun j e' q z => ?_⟩
    · rw [h.x.keep l u q n1 n2] at f; cases f
    · obtain ⟨m, a1, _, _, _, _, a6⟩ := h.r.own j e' q
      rw [z] at a1
      injection a1 with a1; injection a1 with a1; injection a1 with a1
      subst a1
      obtain ⟨u, hu⟩ := a6.some
      rw [hu] at f; cases f
/-- a name is bound -/
theorem ST.bind (h : ST sr K H0 I0 ρ t σ H I) {i : Nat} {v : V} {r : R} {ρ1 : Rho} (hb : bindT (.var i) r ρ = some ρ1) (hv : InR sr K H0 ρ σ H I v r) : ST sr K H0 I0 ρ1 t (σ.set i (some v)) H I := by
  refine ⟨h.hs, h.x, ?_⟩
  cases r with
  | v d => cases hb; exact h.r.setV i hv
  | o d =>
    cases hb
    obtain ⟨l, rfl, f, n1, n2, nI, o, fr⟩ := hv
    exact h.r.setO i f n1 n2 nI o fun j e _ => fr j e
  | k d => exact hv.elim
end

def PostS (sr : Sr τ) (K : PySem.W.Frag) (H0 I0 I : Hp) (o : Out) (ρ' : Rho) (t' : τ) (D : Ends) : Prop :=
  match o with
  | .nx => ∀ σ' H' I', ST sr K H0 I0 ρ' t' σ' H' I' → Le I I' → D.nx σ' H'
  | .bk => ∀ σ' H' I', ST sr K H0 I0 ρ' t' σ' H' I' → Le I I' → D.bk σ' H'
  | .ct => ∀ σ' H' I', ST sr K H0 I0 ρ' t' σ' H' I' → Le I I' → D.ct σ' H'
  | .rt r => ∀ v H' I', HS sr H' I' t' → Ext sr H0 I0 H' I' → RR sr K H0 H' I' v r → D.rt v H'
theorem PostS.le {K : PySem.W.Frag} {H0 I0 I J : Hp} {o : Out} {ρ' : Rho} {t' : τ} {D : Ends} (p : PostS sr K H0 I0 I o ρ' t' D) (l : Le I J) : PostS sr K H0 I0 J o ρ' t' D := by
  cases o with
  | nx => exact fun σ' H' I' s k => p σ' H' I' s (l.trans k)
  | bk => exact fun σ' H' I' s k => p σ' H' I' s (l.trans k)
  | ct => exact fun σ' H' I' s k => p σ' H' I' s (l.trans k)
  | rt r => exact p
/-- the text is a def's body: its names are its own -/
structure GS (sr : Sr τ) (O : Pk τ) (F : Fs τ) (T : Nat → Option Str) (n : Nat) (X : Cx) : Prop extends GX sr O F T n X where
  fk : X.env.scope.kind = .function
  fn : ∀ x, X.fn x = true
theorem GS.loc {n : Nat} {X : Cx} (g : GS sr O F T n X) : LocOk X X.env.scope := fun x h => ⟨h, .inl (g.fn x)⟩
def SSt (sr : Sr τ) (O : Pk τ) (F : Fs τ) (T : Nat → Option Str) (W : Nat) (s : S) : Prop := ∀ {n : Nat} {X : Cx}, GS sr O F T n X → ∀ {ρ ρ' : Rho} {t t' : τ} {o : Out}, exec O F W s ρ t = some (o, ρ', t') → ∀ {σ : L2.St} {H I H0 I0 : Hp}, ST sr X.K H0 I0 ρ t σ H I →
  ∀ {l : List Stmt}, chkS T X.N X.env.scope s l = true → ∀ {D : Ends}, PostS sr X.K H0 I0 I o ρ' t' D → wS X l D σ H
section
variable {W : Nat}
/-- an expression evaluated behind a freezing -/
theorem ex_frz {n : Nat} {X : Cx} (g : GS sr O F T n X) {fz : List Nat} {e : C} {ρ : Rho} {t t1 : τ} {r : R} (he : ev O F e (PyI.frz ρ fz) t = some (r, t1)) {σ : L2.St} {H I H0 I0 : Hp} (st : ST sr X.K H0 I0 ρ t σ H I) {x : Expr} (hi : isIt e = false) (hc : chk T X.N e X.env.scope [x] = true) {Q : VK}
    (q : ∀ v H' J I', Le I J → ST sr X.K H0 I0 (PyI.frz ρ fz) t σ H J → HS sr H' I' t1 → Ext sr H J H' I' → RR sr X.K H H' I' v r → Q v H') : wE X x σ H Q := by
  obtain ⟨J, l, k⟩ := st.frz fz
  exact (snd e).ex g.toGX he k.hs k.r hi hc fun v H' I' hs' x' rr => q v H' J I' l k hs' x' rr

theorem swNone {t x : Expr} (h : isTup t = true → isTup x = false) (h2 : ∀ es p, t ≠ .List es p) (env : PySem.Env) : swappedStores [t] x env = pure none := by
  cases t <;> first | rfl | skip
  · exact absurd rfl (h2 _ _)
  · have k := h rfl
    cases x <;> first | rfl | cases k
theorem swSole {t x : Expr} (h : isComp x = false) (line : Nat) (env : PySem.Env) : swapsWithSole [t] x line env = pure false := by
  cases x <;> first | rfl | cases h
theorem chkT_form {N : List Str} {sc : Scope} {a : C} {t : Expr} (h : chkT N sc a [t] = true) (hl : isL a = false) : (∃ i x p, a = .var i ∧ t = .Name x p ∧ N[i]? = some x ∧ Loc sc x) ∨ isTup t = true := by
  rcases chkT_not h with ⟨i, rfl⟩ | ⟨b, rfl⟩ | rfl | ⟨_, _, rfl⟩
  · obtain ⟨x, p, e, h1, h2⟩ := chkT_var h
    cases e
    exact .inl ⟨_, _, _, rfl, rfl, h1, h2⟩
  · obtain ⟨xs, k, p, e, _⟩ := chkT_tup h
    cases e
    exact .inr rfl
  · cases hl
  · cases hl
theorem comp_only {N : List Str} {sc : Scope} {c : C} {x : Expr} (hl : isL c = false) (h : chk T N c sc [x] = true) (hx : isComp x = true) : ∃ own elt tg it test, c = .comp own elt tg it test := by
  cases x <;> first | (cases hx; done) | skip
  · cases c <;> first | (cases hl; done) | exact ⟨_, _, _, _, _, rfl⟩ | exact absurd h Bool.false_ne_true
  · cases c <;> first | (cases hl; done) | exact ⟨_, _, _, _, _, rfl⟩ | exact absurd h Bool.false_ne_true
  · cases c <;> first | (cases hl; done) | exact ⟨_, _, _, _, _, rfl⟩ | exact absurd h Bool.false_ne_true
theorem asg_each {t : Expr} (h : nonStar t = true) (env : PySem.Env) : (assignEach [t] env).map (·.2) = [assign t env] := by
  cases t <;> first | rfl | cases h
theorem bind_nk {a : C} {r : R} {ρ ρ1 : Rho} (h : bindT a r ρ = some ρ1) : ∀ d, r ≠ .k d := fun d z => by
  subst z
  cases a <;> simp [bindT, R.st] at h
theorem swComp {X : Cx} (hk : X.env.scope.kind = .function) {elt : Expr} {gs : List Comprehension} {scope : Scope} {pos py : Pos} {y : Str} {line : Nat} (h : swC X.env.scope (.Name y py) (.ListComp elt gs scope pos) = false) : swapsWithSole [.Name y py] (.ListComp elt gs scope pos) line X.env = pure false := by
  have hb : X.env.blockKind = .function := by unfold Env.blockKind; rw [hk]; rfl
  show swapsWith (.ListComp elt gs scope pos) (some (.Name y py)) line X.env = pure false
  unfold swapsWith
  simp only [hb]
  have e : (X.env.kindOf y == some .local && py.line == pos.line && !(scope.names.any fun p => p.1 == y && (p.2 == .local || p.2 == .cell))) = false := by
    have e0 : (match X.env.scope.names.lookup y with | some .local => true | _ => false) = (X.env.kindOf y == some .local) := by
      show _ = (X.env.scope.names.lookup y == some .local)
      cases X.env.scope.names.lookup y with
      | none => rfl
      | some k => cases k <;> rfl
    have h' : ((match X.env.scope.names.lookup y with | some .local => true | _ => false) && py.line == pos.line && !(scope.names.any fun p => p.1 == y && (p.2 == .local || p.2 == .cell))) = false := h
    rw [e0] at h'
    exact h'
  rw [show (ScopeKind.function == ScopeKind.function) = true from rfl, Bool.true_and]
  exact congrArg pure e
theorem st_asg {fz : List Nat} {tg e : C} : SSt sr O F T W (.asg fz tg e) := by
  intro n X g ρ ρ' t t' o hx σ H I H0 I0 st l hc D p
  cases l with
  | nil => exact absurd hc Bool.false_ne_true
  | cons s0 l =>
    cases s0 <;> first | exact absurd hc Bool.false_ne_true | skip
    rename_i ts x pos
    cases ts <;> first | exact absurd hc Bool.false_ne_true | skip
    rename_i tt ts
    cases ts <;> first | exact absurd hc Bool.false_ne_true | skip
    cases l <;> first | exact absurd hc Bool.false_ne_true | skip
    have hc' : (!isL tg && !isIt e && !(isTup tt && isTup x) && chkT X.N X.env.scope tg [tt] && chk T X.N e X.env.scope [x]) = true := hc
    simp only [Bool.and_eq_true, Bool.not_eq_true', Bool.and_eq_false_iff] at hc'
    obtain ⟨⟨⟨⟨h1, h2⟩, h3⟩, h4⟩, h5⟩ := hc'
    simp only [exec] at hx
    obtain ⟨r, t1, e1, hx⟩ := bd_eq hx
    simp only [Option.map_eq_some_iff] at hx
    obtain ⟨ρ1, hb, z⟩ := hx
    cases z
    have okt := okT_of h4
    have nL : ∀ es p, tt ≠ .List es p := fun es p z => by
      subst z
      rcases chkT_form h4 h1 with ⟨_, _, _, _, z, _⟩ | z <;> cases z
    have nS : nonStar tt = true := by
      rcases chkT_form h4 h1 with ⟨_, _, _, _, z, _⟩ | z
      · rw [z]; rfl
      · cases tt <;> first | rfl | cases z
    have hw := swNone (t := tt) (x := x) (fun z => h3.resolve_left (by rw [z]; decide)) nL X.env
    have pg := (tg_ok (X := X) g.calm g.nd g.loc tg).1 tt h1 h4
    -- what follows once the value has come
    have fin : ∀ v H' J I', Le I J → ST sr X.K H0 I0 (PyI.frz ρ fz) t σ H J → HS sr H' I' t' → Ext sr H J H' I' → RR sr X.K H H' I' v r → (gOf X.K tg).1 v σ H' D.nx := fun v H' J I' l k hs' x' rr => by
      have k' := k.ext hs' x'
      refine (bind_ok hs' tg okt).1 r _ ρ' v σ h1 hb k'.r (k.inR hs' x' rr (bind_nk hb)) fun σ1 sr1 _ _ => ?_
      exact p σ1 H' I' ⟨hs', k'.x, sr1⟩ (l.trans x'.im)
    by_cases hcomp : isComp x = true ∧ swC X.env.scope tt x = true
    · obtain ⟨own, elt, tg', it, test, rfl⟩ := comp_only (isL_of h2) h5 hcomp.1
      obtain ⟨x', t2, i, ifs, scope, q, rfl, c1, c2, c3, c4, c5, c6, ⟨c7, c8, c9⟩, c10, c11⟩ := chk_comp h5
      rcases chkT_form h4 h1 with ⟨j, y, py, rfl, rfl, hN, hLoc⟩ | z
      · obtain ⟨J, lJ, k⟩ := st.frz fz
        obtain ⟨tT, tE, k1, k2, k3, k4⟩ := comp_rd (snd elt) (snd it) (snd test) g.toGX e1 k.hs k.r c1 c2 c3 c4 c5 c6 c7 c8 c9 c10 c11
        have sw : ((match X.env.scope.names.lookup y with | some .local => true | _ => false) && py.line == q.line && !(scope.names.any fun p => p.1 == y && (p.2 == .local || p.2 == .cell))) = true := hcomp.2
        simp only [Bool.and_eq_true, Bool.not_eq_true'] at sw
        have yl : X.env.scope.names.lookup y = some .local := by
          have := sw.1.1
          split at this
          · assumption
          · cases this
        refine wS.of (pss_one (ps_setLc g.calm g.nd hN yl (sw_true g.fk yl sw.1.2 sw.2) (pi_w t2 i) c6 k1 k2 k3 (folded (nonSet_of c3 c5) _))) ?_
        exact k4 fun v H' I' hs' x' rr => fin v H' J I' lJ k hs' x' rr
      · exfalso
        have := hcomp.2
        cases tt <;> first | (cases z; done) | exact absurd this Bool.false_ne_true
    · have hs : swapsWithSole [tt] x pos.line X.env = pure false := by
        by_cases hcx : isComp x = true
        · have hsw : swC X.env.scope tt x = false := by
            cases hq : swC X.env.scope tt x with
            | false => rfl
            | true => exact absurd ⟨hcx, hq⟩ hcomp
          obtain ⟨own, elt, tg', it, test, rfl⟩ := comp_only (isL_of h2) h5 hcx
          obtain ⟨x', t2, i, ifs, scope, q, rfl, _⟩ := chk_comp h5
          rcases chkT_form h4 h1 with ⟨j, y, py, rfl, rfl, hN, hLoc⟩ | z
          · exact swComp g.fk hsw
          · cases tt <;> first | (cases z; done) | rfl
        · exact swSole (by simpa using hcx) _ _
      refine wS.of (pss_one (ps_asg (pe_w x) pg hs hw (asg_each nS _))) ?_
      exact ex_frz g e1 st h2 h5 fin
end
end PyI

set_option Elab.async false
set_option linter.all false
set_option maxRecDepth 100000
set_option maxHeartbeats 4000000
/-! PyI: statements, further. -/
namespace PyI
open PySem PySem.Spec PyProof.Rows L2
variable {τ : Type} {sr : Sr τ} {O : Pk τ} {F : Fs τ} {T : Nat → Option Str} {W : Nat}

theorem chk_name {N : List Str} {sc : Scope} {i : Nat} {x : Str} (h1 : N[i]? = some x) (h2 : visB sc x = true) (h3 : (x == ("__debug__" : Str)) = false) (h4 : (x == ("__classdict__" : Str)) = false) {X : Cx} (hN : X.N = N) (hs : X.env.scope = sc) {p : Pos} : PE X (.Name x p) (tVar i) :=
  pe_var (by rw [hN]; exact h1) (by rw [hs]; exact vis_of h2) h3 h4

theorem execs_single (x : Stmt) (env : PySem.Env) : execs [x] env = PySem.exec x env := by
  rw [execs_cons]
  have h : (fun f : Flow => (match f with | .next => execs [] env | f => pure f : Sem Flow)) = pure := by
    funext f
    cases f <;> rfl
  show (PySem.exec x env >>= fun f : Flow => (match f with | .next => execs [] env | f => pure f : Sem Flow)) = _
  rw [h]
  exact _root_.bind_pure _
theorem st_ex {fz : List Nat} {e : C} : SSt sr O F T W (.ex fz e) := by
  intro n X g ρ ρ' t t' o hx σ H I H0 I0 st l hc D p
  cases l with
  | nil => exact absurd hc Bool.false_ne_true
  | cons s0 l =>
    cases s0 <;> first | exact absurd hc Bool.false_ne_true | skip
    cases l <;> first | exact absurd hc Bool.false_ne_true | skip
    rename_i x pos
    have hc' : (!isIt e && !isComp x && chk T X.N e X.env.scope [x]) = true := hc
    simp only [Bool.and_eq_true, Bool.not_eq_true'] at hc'
    obtain ⟨⟨h1, h2⟩, h3⟩ := hc'
    simp only [exec] at hx
    obtain ⟨r, t1, e1, hx⟩ := bd_eq hx
    cases hx
    refine wS.of (pss_one (ps_expr (pe_w x) (by cases x <;> first | rfl | cases h2))) ?_
    exact ex_frz g e1 st h1 h3 fun v H' J I' lJ k hs' x' rr => p σ H' I' (k.ext hs' x') (lJ.trans x'.im)
theorem st_ret {fz : List Nat} {e : C} : SSt sr O F T W (.ret fz e) := by
  intro n X g ρ ρ' t t' o hx σ H I H0 I0 st l hc D p
  cases l with
  | nil => exact absurd hc Bool.false_ne_true
  | cons s0 l =>
    cases s0 <;> first | (exact absurd hc Bool.false_ne_true) | skip
    cases l <;> first | (exact absurd hc Bool.false_ne_true) | skip
    rename_i ox pos
    have hc' : partB ox (isNon e) (fun x => !isIt e && chk T X.N e X.env.scope [x]) = true := hc
    simp only [exec] at hx
    obtain ⟨r, t1, e1, hx⟩ := bd_eq hx
    obtain ⟨J, lJ, k⟩ := st.frz fz
    have key : ∀ r' v H' I', HS sr H' I' t1 → Ext sr H J H' I' → RR sr X.K H H' I' v r' → (∀ d, r' ≠ .k d) → RR sr X.K H0 H' I' v r' := fun r' v H' I' hs' x' rr nk => by
      cases r' with
      | v d => exact rr
      | o d =>
        obtain ⟨l, e, f, n1, n2, q⟩ := rr
        exact ⟨l, e, none_of fun ⟨u, z⟩ => (by rw [k.x.keep l u z n1 n2] at f; cases f), n1, n2, q⟩
      | k d => exact absurd rfl (nk d)
    cases ox with
    | none =>
      have hn : isNon e = true := hc'
      cases e <;> first | (cases hn; done) | skip
      cases e1
      cases hx
      exact wS.of (pss_one ps_retN) (p .non H J k.hs k.x .non)
    | some x =>
      have hc' : (!isIt e && chk T X.N e X.env.scope [x]) = true := hc'
      simp only [Bool.and_eq_true, Bool.not_eq_true'] at hc'
      refine wS.of (pss_one (ps_ret (pe_w x))) ?_
      split at hx
      · rename_i d
        cases hx
        exact (snd e).ex g.toGX e1 k.hs k.r hc'.1 hc'.2 fun v H' I' hs' x' rr => p v H' I' hs' (k.ext hs' x').x (key _ v H' I' hs' x' rr fun d z => by cases z)
      · rename_i d
        cases hx
        exact (snd e).ex g.toGX e1 k.hs k.r hc'.1 hc'.2 fun v H' I' hs' x' rr => p v H' I' hs' (k.ext hs' x').x (key _ v H' I' hs' x' rr fun d z => by cases z)
      · rename_i d
        split at hx
        · rename_i hv
          cases hx
          cases e <;> first | (cases hv; done) | skip
          obtain ⟨x', q, rfl, hN, hv, hd, hcd⟩ := chk_var hc'.2
          refine wE.of (pe_var hN hv hd hcd) ?_
          simp only [ev] at e1
          split at e1
          · cases e1
          · rename_i d' ei
            cases e1
            obtain ⟨l, a1, a2, a3, a4, a5, a6⟩ := k.r.own _ d ei
            exact ⟨.ref l, a1, p _ _ J k.hs k.x ⟨l, rfl, a2, a3, a4, a5, a6⟩⟩
          · cases e1
        · cases hx
theorem st_pas : SSt sr O F T W .pas := by
  intro n X g ρ ρ' t t' o hx σ H I H0 I0 st l hc D p
  cases hx
  cases l with
  | nil => exact wS.of pss_nil (p σ H I st (.refl _))
  | cons s0 l =>
    cases s0 <;> first | exact absurd hc Bool.false_ne_true | skip
    cases l <;> first | exact absurd hc Bool.false_ne_true | skip
    exact wS.of (pss_one ps_pass) (p σ H I st (.refl _))
theorem st_brk : SSt sr O F T W .brk := by
  intro n X g ρ ρ' t t' o hx σ H I H0 I0 st l hc D p
  cases hx
  cases l with
  | nil => exact absurd hc Bool.false_ne_true
  | cons s0 l =>
    cases s0 <;> first | exact absurd hc Bool.false_ne_true | skip
    cases l <;> first | exact absurd hc Bool.false_ne_true | skip
    exact wS.of (pss_one ps_break) (p σ H I st (.refl _))
theorem st_cnt : SSt sr O F T W .cnt := by
  intro n X g ρ ρ' t t' o hx σ H I H0 I0 st l hc D p
  cases hx
  cases l with
  | nil => exact absurd hc Bool.false_ne_true
  | cons s0 l =>
    cases s0 <;> first | exact absurd hc Bool.false_ne_true | skip
    cases l <;> first | exact absurd hc Bool.false_ne_true | skip
    exact wS.of (pss_one ps_continue) (p σ H I st (.refl _))
theorem st_seq {a b : S} (A : SSt sr O F T W a) (B : SSt sr O F T W b) : SSt sr O F T W (.seq a b) := by
  intro n X g ρ ρ' t t' o hx σ H I H0 I0 st l hc D p
  cases l with
  | nil => exact absurd hc Bool.false_ne_true
  | cons x l =>
    cases l with
    | nil => exact absurd hc Bool.false_ne_true
    | cons y rest =>
      have hc' : (chkS T X.N X.env.scope a [x] && chkS T X.N X.env.scope b (y :: rest)) = true := hc
      rw [Bool.and_eq_true] at hc'
      have one : PS X x (fun D σ H => wS X [x] D σ H) := ⟨fun pins s σ H D J q => by
        have k := q pins s J
        rw [execs_single] at k
        exact k⟩
      refine wS.of (pss_cons one (pss_w (y :: rest))) ?_
      simp only [exec] at hx
      split at hx
      · rename_i ρ1 t1 ha
        refine A g ha st hc'.1 fun σ' H' I' st' le => ?_
        exact B g hx st' hc'.2 (p.le le)
      · rename_i o' ρ1 t1 ne ha
        cases hx
        refine A g ha st hc'.1 ?_
        cases o with
        | nx => exact (ne rfl).elim
        | bk => exact p
        | ct => exact p
        | rt r => exact p
      · cases hx
end PyI

set_option Elab.async false
set_option linter.all false
set_option maxRecDepth 100000
set_option maxHeartbeats 4000000
/-! PyI: branches, loops, stores. -/
namespace PyI
open PySem PySem.Spec PyProof.Rows L2
variable {τ : Type} {sr : Sr τ} {O : Pk τ} {F : Fs τ} {T : Nat → Option Str} {W : Nat}

theorem ts_frz {n : Nat} {X : Cx} (g : GS sr O F T n X) {fz : List Nat} {e : C} {ρ : Rho} {t t1 : τ} {r : R} (he : ev O F e (PyI.frz ρ fz) t = some (r, t1)) {σ : L2.St} {H I H0 I0 : Hp} (st : ST sr X.K H0 I0 ρ t σ H I) {x : Expr} (hi : isIt e = false) (hc : chk T X.N e X.env.scope [x] = true) {b : Bool} (hb : truth r.d = some b) {Q : Bool → Hp → Prop}
    (q : ∀ H' I', Le I I' → ST sr X.K H0 I0 (PyI.frz ρ fz) t1 σ H' I' → Q b H') : wT X x σ H Q := by
  obtain ⟨J, l, k⟩ := st.frz fz
  exact (snd e).ts g.toGX he k.hs k.r hi hc hb fun H' I' hs' x' => q H' I' (l.trans x'.im) (k.ext hs' x')
theorem st_ifs {fz : List Nat} {c : C} {a b : S} (A : SSt sr O F T W a) (B : SSt sr O F T W b) : SSt sr O F T W (.ifs fz c a b) := by
  intro n X g ρ ρ' t t' o hx σ H I H0 I0 st l hc D p
  cases l with
  | nil => exact absurd hc Bool.false_ne_true
  | cons s0 l =>
    cases s0 <;> first | exact absurd hc Bool.false_ne_true | skip
    cases l <;> first | exact absurd hc Bool.false_ne_true | skip
    rename_i x l1 l2 pos
    have hc' : (!isIt c && chk T X.N c X.env.scope [x] && chkS T X.N X.env.scope a l1 && chkS T X.N X.env.scope b l2) = true := hc
    simp only [Bool.and_eq_true, Bool.not_eq_true'] at hc'
    obtain ⟨⟨⟨h1, h2⟩, h3⟩, h4⟩ := hc'
    simp only [exec] at hx
    obtain ⟨r, t1, e1, hx⟩ := bd_eq hx
    refine wS.of (pss_one (ps_if (pt_w x) (pss_w l1) (pss_w l2))) ?_
    split at hx
    · rename_i zt
      exact ts_frz g e1 st h1 h2 zt fun H' I' le st' => iteT (A g hx st' h3 (p.le le))
    · rename_i zt
      exact ts_frz g e1 st h1 h2 zt fun H' I' le st' => iteF (B g hx st' h4 (p.le le))
    · cases hx
theorem never_of {n : Nat} {X : Cx} (g : GS sr O F T n X) : PassesOwn (model X.prog X.w) X.A X.env X.xe := by
  rw [g.xe]; exact PassesOwn.never
theorem st_whl {fz : List Nat} {c : C} {b : S} (B : SSt sr O F T W b) : SSt sr O F T W (.whl fz c b) := by
  intro n X g ρ ρ' t t' o hx σ H I H0 I0 st l hc D p
  cases l with
  | nil => exact absurd hc Bool.false_ne_true
  | cons s0 l =>
    cases s0 <;> first | exact absurd hc Bool.false_ne_true | skip
    rename_i x l1 l2 pos
    cases l2 <;> first | exact absurd hc Bool.false_ne_true | skip
    cases l <;> first | exact absurd hc Bool.false_ne_true | skip
    have hc' : (!isIt c && chk T X.N c X.env.scope [x] && chkS T X.N X.env.scope b l1) = true := hc
    simp only [Bool.and_eq_true, Bool.not_eq_true'] at hc'
    obtain ⟨⟨h1, h2⟩, h3⟩ := hc'
    simp only [exec] at hx
    refine wS.of (pss_one (ps_while (never_of g) (pt_w x) (pss_w l1))) ?_
    obtain ⟨J, lJ, k⟩ := st.frz fz
    refine ⟨fun m σ H => ∃ ρ1 t1 I1, Le I I1 ∧ ST sr X.K H0 I0 ρ1 t1 σ H I1 ∧ whlL (fun ρ t => bd (ev O F c ρ t) fun r t1 => (truth r.d).map fun b => (b, t1)) (PyI.exec O F W b) m ρ1 t1 = some (o, ρ', t'), ⟨W, _, t, J, lJ, k, hx⟩, ?_⟩
    rintro m σ1 H1 ⟨ρ1, t1, I1, le1, st1, hx1⟩
    cases m with
    | zero => cases hx1
    | succ m =>
      simp only [whlL] at hx1
      have ttest : ∀ {bb : Bool} {t2 : τ}, bd (ev O F c ρ1 t1) (fun r t1 => (truth r.d).map fun b => (b, t1)) = some (bb, t2) → ∃ r, ev O F c ρ1 t1 = some (r, t2) ∧ truth r.d = some bb := fun {bb t2} h => by
        obtain ⟨r, t3, e1, h⟩ := bd_eq h
        simp only [Option.map_eq_some_iff] at h
        obtain ⟨b', hb, z⟩ := h
        cases z
        exact ⟨r, e1, hb⟩
      split at hx1
      · rename_i t2 ht
        obtain ⟨r, e1, hb⟩ := ttest ht
        refine (snd c).ts g.toGX e1 st1.hs st1.r h1 h2 hb fun H2 I2 hs2 x2 => ?_
        have st2 := st1.ext hs2 x2
        have le2 := le1.trans x2.im
        rw [if_pos rfl]
        refine ⟨fun σ' H' => ∃ ρ1 t1 I1, Le I I1 ∧ ST sr X.K H0 I0 ρ1 t1 σ' H' I1 ∧ whlL (fun ρ t => bd (ev O F c ρ t) fun r t1 => (truth r.d).map fun b => (b, t1)) (PyI.exec O F W b) m ρ1 t1 = some (o, ρ', t'), fun σ' H' h => ⟨m, Nat.lt_succ_self m, h⟩, ?_⟩
        split at hx1
        · rename_i ρ2 t3 hb2
          exact B g hb2 st2 h3 fun σ' H' I' st' le' => ⟨ρ2, t3, I', le2.trans le', st', hx1⟩
        · rename_i ρ2 t3 hb2
          exact B g hb2 st2 h3 fun σ' H' I' st' le' => ⟨ρ2, t3, I', le2.trans le', st', hx1⟩
        · rename_i ρ2 t3 hb2
          cases hx1
          exact B g hb2 st2 h3 fun σ' H' I' st' le' => p σ' H' I' st' (le2.trans le')
        · rename_i r' ρ2 t3 hb2
          cases hx1
          exact B g hb2 st2 h3 p
        · cases hx1
      · rename_i t2 ht
        obtain ⟨r, e1, hb⟩ := ttest ht
        cases hx1
        refine (snd c).ts g.toGX e1 st1.hs st1.r h1 h2 hb fun H2 I2 hs2 x2 => ?_
        rw [if_neg Bool.false_ne_true]
        exact p σ1 H2 I2 (st1.ext hs2 x2) (le1.trans x2.im)
      · cases hx1
theorem st_fr {fz : List Nat} {tg it : C} {b : S} (B : SSt sr O F T W b) : SSt sr O F T W (.fr fz tg it b) := by
  intro n X g ρ ρ' t t' o hx σ H I H0 I0 st l hc D p
  cases l with
  | nil => exact absurd hc Bool.false_ne_true
  | cons s0 l =>
    cases s0 <;> first | exact absurd hc Bool.false_ne_true | skip
    rename_i tt x l1 l2 pos
    cases l2 <;> first | exact absurd hc Bool.false_ne_true | skip
    cases l <;> first | exact absurd hc Bool.false_ne_true | skip
    have hc' : (!isL tg && !isL it && (!prs it || isTup tt) && chkT X.N X.env.scope tg [tt] && chk T X.N it X.env.scope [x] && chkS T X.N X.env.scope b l1) = true := hc
    simp only [Bool.and_eq_true, Bool.not_eq_true', Bool.or_eq_true] at hc'
    obtain ⟨⟨⟨⟨⟨h1, h2⟩, h3⟩, h4⟩, h5⟩, h6⟩ := hc'
    simp only [exec] at hx
    obtain ⟨r, t1, e1, hx⟩ := bd_eq hx
    split at hx
    · rename_i xs hxs
      have okt := okT_of h4
      have pg := (tg_ok (X := X) g.calm g.nd g.loc tg).1 tt h1 h4
      refine wS.of (pss_one (ps_for (never_of g) g.calm (pi_w tt x) pg (pss_w l1) (folded (nonSet_of h2 h5) _))) ?_
      obtain ⟨J, lJ, k⟩ := st.frz fz
      refine (snd it).it g.toGX e1 k.hs k.r h2 (fun z => h3.resolve_left (by rw [z]; decide)) h5 hxs fun Jt H1 I1 hs1 x1 ok => ?_
      have k1 := k.ext hs1 x1
      refine ⟨fun i m σ2 H2 => i ≤ xs.length ∧ m = xs.length - i ∧ ∃ ρ2 t2 I2, Le I1 I2 ∧ ST sr X.K H0 I0 ρ2 t2 σ2 H2 I2 ∧ forL (fun x ρ t => match bindT tg (.v x) ρ with | some ρ1 => PyI.exec O F W b ρ1 t | none => none) (xs.drop i) ρ2 t2 = some (o, ρ', t'),
        ⟨xs.length, Nat.zero_le _, rfl, _, t1, I1, .refl _, k1, hx⟩, ?_⟩
      rintro i m σ2 H2 ⟨hi, rfl, ρ2, t2, I2, le2, st2, hx2⟩
      by_cases lt : i < xs.length
      · refine .inr ⟨ok.go H2 I2 t2 i st2.hs le2 lt, fun σ3 H3 => i + 1 ≤ xs.length ∧ ∃ ρ2 t2 I2, Le I1 I2 ∧ ST sr X.K H0 I0 ρ2 t2 σ3 H3 I2 ∧ forL (fun x ρ t => match bindT tg (.v x) ρ with | some ρ1 => PyI.exec O F W b ρ1 t | none => none) (xs.drop (i + 1)) ρ2 t2 = some (o, ρ', t'),
          fun σ' H' ⟨a, q⟩ => ⟨xs.length - (i + 1), by omega, a, rfl, q⟩, fun v H3 hy => ?_⟩
        have hd : xs[i]? = some xs[i] := List.getElem?_eq_getElem lt
        obtain ⟨I3, hs3, x3, rep⟩ := ok.yld H2 I2 t2 i xs[i] v H3 st2.hs le2 hd hy
        have st3 := st2.ext hs3 x3
        have le3 := le2.trans x3.im
        rw [List.drop_eq_getElem_cons lt] at hx2
        simp only [forL] at hx2
        have step : ∃ ρ1, bindT tg (.v xs[i]) ρ2 = some ρ1 := by
          cases hb : bindT tg (.v xs[i]) ρ2 with
          | some ρ1 => exact ⟨ρ1, rfl⟩
          | none => rw [hb] at hx2; cases hx2
        obtain ⟨ρ1, hb⟩ := step
        rw [hb] at hx2
        refine (bind_ok hs3 tg okt).1 (.v xs[i]) _ ρ1 v _ h1 hb st3.r rep fun σ1 sr1 _ _ => ?_
        have st4 : ST sr X.K H0 I0 ρ1 t2 σ1 H3 I3 := ⟨hs3, st3.x, sr1⟩
        split at hx2
        · rename_i ρ3 t3 hb2
          exact B g hb2 st4 h6 fun σ' H' I' st' le' => ⟨lt, ρ3, t3, I', le3.trans le', st', hx2⟩
        · rename_i ρ3 t3 hb2
          exact B g hb2 st4 h6 fun σ' H' I' st' le' => ⟨lt, ρ3, t3, I', le3.trans le', st', hx2⟩
        · rename_i ρ3 t3 hb2
          cases hx2
          exact B g hb2 st4 h6 fun σ' H' I' st' le' => p σ' H' I' st' ((lJ.trans x1.im).trans (le3.trans le'))
        · rename_i r' ρ3 t3 hb2
          cases hx2
          exact B g hb2 st4 h6 p
        · cases hx2
      · have ei : xs.length ≤ i := by omega
        rw [List.drop_of_length_le ei] at hx2
        cases hx2
        exact .inl ⟨ok.stop H2 I2 t' i st2.hs le2 ei, p σ2 H2 I2 st2 ((lJ.trans x1.im).trans le2)⟩
    · cases hx

/-! ### stores -/
theorem own_lst {K : PySem.W.Frag} {H0 I0 H I : Hp} {ρ : Rho} {t : τ} {σ : L2.St} (st : ST sr K H0 I0 ρ t σ H I) {i : Nat} {xs : List D} (e : ρ[i]? = some (some (.o (.lst xs)))) : ∃ l vs, σ[i]? = some (some (.ref l)) ∧ H l = some (.lst vs) ∧ Reps K sr.g1 I vs xs ∧ l ≠ sr.g1 ∧ l ≠ sr.g2 ∧ I l = none := by
  obtain ⟨l, a1, a2, a3, a4, a5, vs, a6, a7⟩ := st.r.own i _ e
  exact ⟨l, vs, a1, a6, a7, a3, a4, a5⟩
theorem few1 {X : Cx} {v : Expr} {cp : Pos} (h : nonStar v = true) : ((backTo cp (starEach [v] X.env)).all (fun x => !x.1) && (backToKw cp (keywordEach [] X.env)).all (fun x => x.1.isSome)
      && decide (([v] : List Expr).length + ([] : List Keyword).length + (if ([] : List Keyword).isEmpty then 0 else 1) < 30)) = true := by
  rw [star_cons h]; rfl
theorem nonSlice_of {N : List Str} {c : C} {sc : Scope} {e : Expr} (hl : isL c = false) (h : chk T N c sc [e] = true) : nonSlice e = true := by
  cases e <;> first | rfl | skip
  cases c <;> first | (cases hl; done) | exact absurd h Bool.false_ne_true
theorem assign_sub {o y : Expr} {p : Pos} {env : PySem.Env} (h : nonSlice y = true) : ∀ v, assign (.Subscript o y p) env v = (do
    let ov ← holding [v] (eval o env)
    let iv ← holding [v, ov] (eval y env)
    standAt p
    holding [v, ov, iv] (setItem ov iv v)
    release [v, ov, iv] []) := by
  cases y <;> first | (intro _; rfl) | cases h
theorem st_sto {fz : List Nat} {i : Nat} {ix e : C} : SSt sr O F T W (.sto fz i ix e) := by
  intro n X g ρ ρ' t t' o hx σ H I H0 I0 st l hc D p
  cases l with
  | nil => exact absurd hc Bool.false_ne_true
  | cons s0 l =>
    cases s0 <;> first | exact absurd hc Bool.false_ne_true | skip
    rename_i ts v pos
    cases ts <;> first | exact absurd hc Bool.false_ne_true | skip
    rename_i tt ts
    cases tt <;> first | exact absurd hc Bool.false_ne_true | skip
    rename_i xx y p2
    cases xx <;> first | exact absurd hc Bool.false_ne_true | skip
    cases ts <;> first | exact absurd hc Bool.false_ne_true | skip
    cases l <;> first | exact absurd hc Bool.false_ne_true | skip
    rename_i x px
    have hc' : (decide (X.N[i]? = some x) && visB X.env.scope x && !(x == ("__debug__" : Str)) && !(x == ("__classdict__" : Str)) && !isIt ix && !isIt e && chk T X.N ix X.env.scope [y] && chk T X.N e X.env.scope [v]) = true := hc
    simp only [Bool.and_eq_true, Bool.not_eq_true', decide_eq_true_eq] at hc'
    obtain ⟨⟨⟨⟨⟨⟨⟨h1, h2⟩, h3⟩, h4⟩, h5⟩, h6⟩, h7⟩, h8⟩ := hc'
    simp only [exec] at hx
    obtain ⟨r, t1, e1, hx⟩ := bd_eq hx
    obtain ⟨ri, t2, e2, hx⟩ := bd_eq hx
    split at hx
    · rename_i d dd z1 z2
      simp only [Option.map_eq_some_iff] at hx
      obtain ⟨d', hset, z⟩ := hx
      cases z
      have pn : PE X (.Name x px) (tVar i) := pe_var h1 (vis_of h2) h3 h4
      by_cases isD : ∃ ks ws, dd = .dct ks ws
      · obtain ⟨ks, ws, rfl⟩ := isD
        refine wS.of (pss_one (ps_dput (by have := g.hu; omega) pn (pe_w y) (pe_w v) (by cases v <;> rfl))) ?_
        obtain ⟨J, lJ, k⟩ := st.frz fz
        refine (snd e).ex g.toGX e1 k.hs k.r h6 h8 fun u H1 I1 hs1 x1 rr1 => ?_
        obtain ⟨I1', hs1', x1', rep⟩ := rr1.frz hs1 x1 z1
        have k1 := k.ext hs1' x1'
        simp only [setAt] at hset
        split at hset
        · rename_i hkc
          cases hset
          rw [Bool.and_eq_true] at hkc
          obtain ⟨hkey, hlen⟩ := hkc
          have hlen := of_decide_eq_true hlen
          obtain ⟨l, a1, a2, a3, a4, a5, kvs, a6, a7, a8⟩ := k1.r.own i _ z2
          refine ⟨.ref l, a1, ?_⟩
          refine (snd ix).ex g.toGX e2 hs1' k1.r h5 h7 fun w H2 I2 hs2 x2 rr2 => ?_
          have k2 := k1.ext hs2 x2
          obtain ⟨l', b1, b2, b3, b4, b5, kvs', b6, b7, b8⟩ := k2.r.own i _ z2
          rw [a1] at b1
          injection b1 with b1; injection b1 with b1; injection b1 with b1
          subst b1
          have hyr := rr2.w.keyI hkey
          obtain ⟨kk, rfl, hkk⟩ := key_rep hyr hkey
          have hl' : kvs'.length < sizeLine := by
            have := b7.length
            rw [List.length_map] at this
            omega
          obtain ⟨r1, r2⟩ := putD_rep hkk hyr (rep.le x2.im) b7 b8
          refine ⟨l, _, rfl, DPut.k b6 hl', ?_⟩
          exact p σ _ I2 (k2.setO z2 a1 fun J' z => ⟨_, z, r1, r2⟩) ((lJ.trans x1'.im).trans x2.im)
        · cases hset
      refine wS.of (pss_one (ps_asg (pe_w v) (pg_sub pn (pe_w y) set_list (assign_sub (nonSlice_of (isL_of h5) h7))) (by cases v <;> rfl) (by cases v <;> rfl))) ?_
      obtain ⟨J, lJ, k⟩ := st.frz fz
      refine (snd e).ex g.toGX e1 k.hs k.r h6 h8 fun u H1 I1 hs1 x1 rr1 => ?_
      obtain ⟨I1', hs1', x1', rep⟩ := rr1.frz hs1 x1 z1
      have k1 := k.ext hs1' x1'
      cases dd with
      | lst xs =>
        generalize q2 : ri.d = di at hset
        cases di with
        | int ii =>
          simp only [setAt, Option.map_eq_some_iff] at hset
          obtain ⟨j, hj, z⟩ := hset
          cases z
          obtain ⟨l, vs, a1, _⟩ := own_lst k1 z2
          refine ⟨.ref l, a1, ?_⟩
          refine (snd ix).ex g.toGX e2 hs1' k1.r h5 h7 fun w H2 I2 hs2 x2 rr2 => ?_
          have k2 := k1.ext hs2 x2
          obtain ⟨l', vs', b1, b2, b3, b4, b5, b6⟩ := own_lst k2 z2
          rw [a1] at b1
          injection b1 with b1; injection b1 with b1; injection b1 with b1
          subst b1
          refine ⟨l, vs', _, j, rfl, rr2.w.int hs2.sub q2, b2, by rw [b3.length]; exact hj, ?_⟩
          exact p σ _ I2 (k2.setO z2 a1 fun J' z => ⟨_, z, b3.set j (rep.le x2.im)⟩) ((lJ.trans x1'.im).trans x2.im)
        | _ => cases hset
      | dct ks ws => exact absurd ⟨_, _, rfl⟩ isD
      | _ => cases ri <;> cases hset
    · cases hx
theorem st_app {fz : List Nat} {i : Nat} {e : C} : SSt sr O F T W (.app fz i e) := by
  intro n X g ρ ρ' t t' o hx σ H I H0 I0 st l hc D p
  cases l with
  | nil => exact absurd hc Bool.false_ne_true
  | cons s0 l =>
    cases s0 <;> first | exact absurd hc Bool.false_ne_true | skip
    rename_i cc pos
    cases cc <;> first | exact absurd hc Bool.false_ne_true | skip
    rename_i ff as ks cp
    cases ff <;> first | exact absurd hc Bool.false_ne_true | skip
    rename_i xx m ap
    cases xx <;> first | exact absurd hc Bool.false_ne_true | skip
    cases as <;> first | exact absurd hc Bool.false_ne_true | skip
    rename_i v as
    cases as <;> first | exact absurd hc Bool.false_ne_true | skip
    cases ks <;> first | exact absurd hc Bool.false_ne_true | skip
    cases l <;> first | exact absurd hc Bool.false_ne_true | skip
    rename_i x px
    have hc' : (decide (m = "append") && decide (X.N[i]? = some x) && visB X.env.scope x && !(x == ("__debug__" : Str)) && !(x == ("__classdict__" : Str)) && ap.endLine == cp.line && nonStar v && !isIt e && chk T X.N e X.env.scope [v]) = true := hc
    simp only [Bool.and_eq_true, Bool.not_eq_true', decide_eq_true_eq] at hc'
    obtain ⟨⟨⟨⟨⟨⟨⟨⟨h0, h1⟩, h2⟩, h3⟩, h4⟩, h5⟩, h6⟩, h7⟩, h8⟩ := hc'
    subst h0
    simp only [exec] at hx
    obtain ⟨r, t1, e1, hx⟩ := bd_eq hx
    split at hx
    · rename_i d xs z1 z2
      split at hx
      · rename_i hz
        cases hx
        have pn : PE X (.Name x px) (tVar i) := pe_var h1 (vis_of h2) h3 h4
        refine wS.of (pss_one (ps_expr (pe_bm PySem.F.plainAttrs_list PySem.F.slot_list_append PySem.F.type_list_append mt_append pn (pa_cons (pe_w v) pa_nil (star_cons h6)) rfl (few1 h6) h5 (star_cons h6) rfl))) ?_
        obtain ⟨J, lJ, k⟩ := st.frz fz
        obtain ⟨l, vs, a1, a2, _⟩ := own_lst k z2
        refine ⟨.ref l, a1, .inl ⟨rfl, _, .inl (.inl a2)⟩, ?_⟩
        refine (snd e).ex g.toGX e1 k.hs k.r h7 h8 fun u H1 I1 hs1 x1 rr1 => ?_
        obtain ⟨I1', hs1', x1', rep⟩ := rr1.frz hs1 x1 z1
        have k1 := k.ext hs1' x1'
        obtain ⟨l', vs', b1, b2, b3, b4, b5, b6⟩ := own_lst k1 z2
        rw [a1] at b1
        injection b1 with b1; injection b1 with b1; injection b1 with b1
        subst b1
        refine ⟨l, vs', u, rfl, rfl, b2, by rw [b3.length]; exact hz, ?_⟩
        exact p σ _ I1' (k1.setO z2 a1 fun J' z => ⟨_, z, b3.append (.cons rep .nil)⟩) (lJ.trans x1'.im)
      · cases hx
    · cases hx
theorem st_ext {fz : List Nat} {i : Nat} {e : C} : SSt sr O F T W (.ext fz i e) := by
  intro n X g ρ ρ' t t' o hx σ H I H0 I0 st l hc D p
  cases l with
  | nil => exact absurd hc Bool.false_ne_true
  | cons s0 l =>
    cases s0 <;> first | exact absurd hc Bool.false_ne_true | skip
    rename_i cc pos
    cases cc <;> first | exact absurd hc Bool.false_ne_true | skip
    rename_i ff as ks cp
    cases ff <;> first | exact absurd hc Bool.false_ne_true | skip
    rename_i xx m ap
    cases xx <;> first | exact absurd hc Bool.false_ne_true | skip
    cases as <;> first | exact absurd hc Bool.false_ne_true | skip
    rename_i v as
    cases as <;> first | exact absurd hc Bool.false_ne_true | skip
    cases ks <;> first | exact absurd hc Bool.false_ne_true | skip
    cases l <;> first | exact absurd hc Bool.false_ne_true | skip
    rename_i x px
    have hc' : (decide (m = "extend") && decide (X.N[i]? = some x) && visB X.env.scope x && !(x == ("__debug__" : Str)) && !(x == ("__classdict__" : Str)) && ap.endLine == cp.line && nonStar v && !isIt e && chk T X.N e X.env.scope [v]) = true := hc
    simp only [Bool.and_eq_true, Bool.not_eq_true', decide_eq_true_eq] at hc'
    obtain ⟨⟨⟨⟨⟨⟨⟨⟨h0, h1⟩, h2⟩, h3⟩, h4⟩, h5⟩, h6⟩, h7⟩, h8⟩ := hc'
    subst h0
    simp only [exec] at hx
    obtain ⟨r, t1, e1, hx⟩ := bd_eq hx
    split at hx
    · rename_i ys xs z1 z2
      split at hx
      · rename_i hz
        cases hx
        have pn : PE X (.Name x px) (tVar i) := pe_var h1 (vis_of h2) h3 h4
        refine wS.of (pss_one (ps_expr (pe_bm PySem.F.plainAttrs_list PySem.F.slot_list_extend PySem.F.type_list_extend mt_extend pn (pa_cons (pe_w v) pa_nil (star_cons h6)) rfl (few1 h6) h5 (star_cons h6) rfl))) ?_
        obtain ⟨J, lJ, k⟩ := st.frz fz
        obtain ⟨l, vs, a1, a2, _⟩ := own_lst k z2
        refine ⟨.ref l, a1, .inl ⟨rfl, _, .inl (.inl a2)⟩, ?_⟩
        refine (snd e).ex g.toGX e1 k.hs k.r h7 h8 fun u H1 I1 hs1 x1 rr1 => ?_
        obtain ⟨I1', hs1', x1', rep⟩ := rr1.frz hs1 x1 z1
        have k1 := k.ext hs1' x1'
        obtain ⟨l', vs', b1, b2, b3, b4, b5, b6⟩ := own_lst k1 z2
        rw [a1] at b1
        injection b1 with b1; injection b1 with b1; injection b1 with b1
        subst b1
        cases rep with
        | lst q rs =>
          refine ⟨l, _, vs', _, rfl, rfl, b2, hs1'.sub _ _ q, by rw [b3.length, rs.length]; exact hz, ?_⟩
          exact p σ _ I1' (k1.setO z2 a1 fun J' z => ⟨_, z, b3.append rs⟩) (lJ.trans x1'.im)
      · cases hx
    · cases hx
theorem last_of {K : PySem.W.Frag} {I : Hp} {vs : List V} {x : D} {xs : List D} (rs : Reps K sr.g1 I vs (x :: xs)) : ∃ v, vs[vs.length - 1]? = some v ∧ Rep K sr.g1 I v ((x :: xs).getLast (by simp)) := by
  have h : (x :: xs)[(x :: xs).length - 1]? = some ((x :: xs).getLast (by simp)) := by
    rw [List.getLast_eq_getElem, List.getElem?_eq_getElem]
  rw [rs.length]
  exact rs.get h
theorem st_pop {j : Option Nat} {i : Nat} : SSt sr O F T W (.pop j i) := by
  intro n X g ρ ρ' t t' o hx σ H I H0 I0 st l hc D p
  cases l with
  | nil => cases j <;> exact absurd hc Bool.false_ne_true
  | cons s0 l =>
    cases j with
    | none =>
      cases s0 <;> first | exact absurd hc Bool.false_ne_true | skip
      rename_i cc pos
      cases cc <;> first | exact absurd hc Bool.false_ne_true | skip
      rename_i ff as ks cp
      cases ff <;> first | exact absurd hc Bool.false_ne_true | skip
      rename_i xx m ap
      cases xx <;> first | exact absurd hc Bool.false_ne_true | skip
      cases as <;> first | exact absurd hc Bool.false_ne_true | skip
      cases ks <;> first | exact absurd hc Bool.false_ne_true | skip
      cases l <;> first | exact absurd hc Bool.false_ne_true | skip
      rename_i x px
      have hc' : (decide (m = "pop") && decide (X.N[i]? = some x) && visB X.env.scope x && !(x == ("__debug__" : Str)) && !(x == ("__classdict__" : Str)) && ap.endLine == cp.line) = true := hc
      simp only [Bool.and_eq_true, Bool.not_eq_true', decide_eq_true_eq] at hc'
      obtain ⟨⟨⟨⟨⟨h0, h1⟩, h2⟩, h3⟩, h4⟩, h5⟩ := hc'
      subst h0
      simp only [exec] at hx
      split at hx
      · rename_i y ys z2
        cases hx
        have pn : PE X (.Name x px) (tVar i) := pe_var h1 (vis_of h2) h3 h4
        refine wS.of (pss_one (ps_expr (pe_bm0 PySem.F.plainAttrs_list PySem.F.slot_list_pop PySem.F.type_list_pop mt_pop pn rfl h5))) ?_
        obtain ⟨l, vs, a1, a2, a3, _⟩ := own_lst st z2
        obtain ⟨v, hv, _⟩ := last_of a3
        exact ⟨.ref l, a1, .inl ⟨rfl, _, .inl (.inl a2)⟩, l, vs, v, rfl, rfl, a2, hv, p σ _ I (st.setO z2 a1 fun J' z => ⟨_, z, a3.dropLast⟩) (.refl _)⟩
      · cases hx
    | some j =>
      cases s0 <;> first | exact absurd hc Bool.false_ne_true | skip
      rename_i ts cc pos
      cases ts <;> first | exact absurd hc Bool.false_ne_true | skip
      rename_i tt ts
      cases tt <;> first | exact absurd hc Bool.false_ne_true | skip
      cases ts <;> first | exact absurd hc Bool.false_ne_true | skip
      cases cc <;> first | exact absurd hc Bool.false_ne_true | skip
      rename_i y py ff as ks cp
      cases ff <;> first | exact absurd hc Bool.false_ne_true | skip
      rename_i xx m ap
      cases xx <;> first | exact absurd hc Bool.false_ne_true | skip
      cases as <;> first | exact absurd hc Bool.false_ne_true | skip
      cases ks <;> first | exact absurd hc Bool.false_ne_true | skip
      cases l <;> first | exact absurd hc Bool.false_ne_true | skip
      rename_i x px
      have hc' : (decide (m = "pop") && decide (X.N[i]? = some x) && visB X.env.scope x && !(x == ("__debug__" : Str)) && !(x == ("__classdict__" : Str)) && ap.endLine == cp.line && decide (X.N[j]? = some y) && locB X.env.scope y) = true := hc
      simp only [Bool.and_eq_true, Bool.not_eq_true', decide_eq_true_eq] at hc'
      obtain ⟨⟨⟨⟨⟨⟨⟨h0, h1⟩, h2⟩, h3⟩, h4⟩, h5⟩, h6⟩, h7⟩ := hc'
      subst h0
      simp only [exec] at hx
      split at hx
      · rename_i z zs z2
        split at hx
        · cases hx
        · cases hx
          have pn : PE X (.Name x px) (tVar i) := pe_var h1 (vis_of h2) h3 h4
          refine wS.of (pss_one (ps_asg (pe_bm0 PySem.F.plainAttrs_list PySem.F.slot_list_pop PySem.F.type_list_pop mt_pop pn rfl h5) (pg_name g.nd h6 (loc_of h7) (.inl (g.fn y))))) ?_
          obtain ⟨l, vs, a1, a2, a3, _⟩ := own_lst st z2
          obtain ⟨v, hv, rep⟩ := last_of a3
          refine ⟨.ref l, a1, .inl ⟨rfl, _, .inl (.inl a2)⟩, l, vs, v, rfl, rfl, a2, hv, ?_⟩
          have k := st.setO (d' := .lst (z :: zs).dropLast) z2 a1 (o := .lst vs.dropLast) fun J' q => ⟨_, q, a3.dropLast⟩
          exact p _ _ I ⟨k.hs, k.x, k.r.setV j rep⟩ (.refl _)
      · cases hx
end PyI

set_option Elab.async false
set_option linter.all false
set_option maxRecDepth 100000
set_option maxHeartbeats 4000000
/-! PyI: two names at once; every statement. -/
namespace PyI
open PySem PySem.Spec PyProof.Rows L2
variable {τ : Type} {sr : Sr τ} {O : Pk τ} {F : Fs τ} {T : Nat → Option Str} {W : Nat}

theorem swap_yes {X : Cx} (hk : X.env.scope.kind = .function) {x y : Str} {px py p1 p2 : Pos} {k1 k2 : Nat} {u v : Expr} (hx : X.env.scope.names.lookup x = some .local) (hy : X.env.scope.names.lookup y = some .local) (hl : (py.line == px.line) = true) (ne : x ≠ y)
    (su : nonStar u = true) (sv : nonStar v = true) (hf : (foldedForSure 8 u && foldedForSure 8 v) = false) (hc : (constantsAlone 8 u && constantsAlone 8 v) = false) :
    swappedStores [.Tuple [.Name x px, .Name y py] k1 p1] (.Tuple [u, v] k2 p2) X.env = pure (some [x, y]) := by
  have hb : X.env.blockKind = .function := by unfold Env.blockKind; rw [hk]; rfl
  have kx : X.env.kindOf x = some .local := hx
  have ky : X.env.kindOf y = some .local := hy
  have st : ∀ {e : Expr}, nonStar e = true → (match e with | .Starred .. => true | _ => false) = false := fun {e} h => by
    cases e <;> first | rfl | cases h
  have hl' : py.line = px.line := by simpa using hl
  have h2 : ([x, y] : List Str).eraseDups.length = 2 := by
    have : (y == x) = false := by simpa using (fun e => ne e.symm)
    simp [List.eraseDups, List.eraseDupsBy, List.eraseDupsBy.loop, this]
  unfold swappedStores
  simp only [List.length_cons, List.length_nil, hb, kx, ky, List.any_cons, List.any_nil, List.all_cons, List.all_nil, List.filterMap_cons, List.filterMap_nil, Expr.pos, hl', List.head?_cons, Option.map_some, Option.getD_some, Bool.or_false, Bool.and_true, hf, hc]
  rw [if_neg (by decide)]
  refine (if_neg fun h => ?_).trans ?_
  · rcases (Bool.or_eq_true _ _).mp h with z | z
    · cases u <;> first | (cases su; done) | cases z
    · cases v <;> first | (cases sv; done) | cases z
  simp only [beq_self_eq_true, Bool.and_self, if_true]
  rw [if_neg (by rw [h2]; simp), if_neg Bool.false_ne_true, if_neg Bool.false_ne_true]
theorem locl_eq {X : Cx} (x : Str) : (X.env.kindOf x == some .local) = locl X.env.scope x := by
  show (X.env.scope.names.lookup x == some .local) = _
  unfold locl
  cases X.env.scope.names.lookup x with
  | none => rfl
  | some k => cases k <;> rfl
theorem swap_no {X : Cx} (hk : X.env.scope.kind = .function) {x y : Str} {px py p1 p2 : Pos} {k1 k2 : Nat} {u v : Expr} (su : nonStar u = true) (sv : nonStar v = true)
    (h : (locl X.env.scope x && locl X.env.scope y && py.line == px.line) = false ∨ (foldedForSure 8 u && foldedForSure 8 v) = true) (ne : x ≠ y) :
    swappedStores [.Tuple [.Name x px, .Name y py] k1 p1] (.Tuple [u, v] k2 p2) X.env = pure none := by
  have hb : X.env.blockKind = .function := by unfold Env.blockKind; rw [hk]; rfl
  have st : ∀ {e : Expr}, nonStar e = true → (match e with | .Starred .. => true | _ => false) = false := fun {e} h => by
    cases e <;> first | rfl | cases h
  unfold swappedStores
  simp only [List.length_cons, List.length_nil, hb, List.any_cons, List.any_nil, List.all_cons, List.all_nil, List.filterMap_cons, List.filterMap_nil, Expr.pos, List.head?_cons, Option.map_some, Option.getD_some, Bool.or_false, Bool.and_true, locl_eq, beq_self_eq_true]
  rw [if_neg (by decide)]
  refine (if_neg fun h => ?_).trans ?_
  · rcases (Bool.or_eq_true _ _).mp h with z | z
    · cases u <;> first | (cases su; done) | cases z
    · cases v <;> first | (cases sv; done) | cases z
  rcases h with h | h
  · cases hx : locl X.env.scope x <;> cases hy : locl X.env.scope y <;> cases hl : (py.line == px.line) <;> rw [hx, hy, hl] at h <;> first | (cases h; done) | (simp; done) | simp
  · cases hx : locl X.env.scope x <;> cases hy : locl X.env.scope y <;> cases hl : (py.line == px.line) <;> (
      simp only [Bool.and_true, Bool.and_false, Bool.true_and, Bool.false_and, if_true, Bool.false_eq_true, if_false, h]
      split <;> rfl)

theorem st_par {fz : List Nat} {i j : Nat} {a b : C} : SSt sr O F T W (.par fz i j a b) := by
  intro n X g ρ ρ' t t' o hx σ H I H0 I0 st l hc D p
  cases l with
  | nil => exact absurd hc Bool.false_ne_true
  | cons s0 l =>
    cases s0 <;> first | exact absurd hc Bool.false_ne_true | skip
    rename_i ts vv pos
    cases ts <;> first | exact absurd hc Bool.false_ne_true | skip
    rename_i tt ts
    cases tt <;> first | exact absurd hc Bool.false_ne_true | skip
    rename_i ns k1 p1
    cases ns <;> first | exact absurd hc Bool.false_ne_true | skip
    rename_i n1 ns
    cases n1 <;> first | exact absurd hc Bool.false_ne_true | skip
    cases ns <;> first | exact absurd hc Bool.false_ne_true | skip
    rename_i x px n2 ns
    cases n2 <;> first | exact absurd hc Bool.false_ne_true | skip
    cases ns <;> first | exact absurd hc Bool.false_ne_true | skip
    cases ts <;> first | exact absurd hc Bool.false_ne_true | skip
    cases vv <;> first | exact absurd hc Bool.false_ne_true | skip
    rename_i y py vs k2 p2
    cases vs <;> first | exact absurd hc Bool.false_ne_true | skip
    rename_i u vs
    cases vs <;> first | exact absurd hc Bool.false_ne_true | skip
    rename_i v vs
    cases vs <;> first | exact absurd hc Bool.false_ne_true | skip
    cases l <;> first | exact absurd hc Bool.false_ne_true | skip
    have hc' : (decide (i ≠ j) && decide (X.N[i]? = some x) && decide (X.N[j]? = some y) && locB X.env.scope x && locB X.env.scope y && nonStar u && nonStar v && !isIt a && !isIt b && chk T X.N a X.env.scope [u] && chk T X.N b X.env.scope [v] &&
      (!(locl X.env.scope x && locl X.env.scope y && py.line == px.line) || (foldedForSure 8 u && foldedForSure 8 v) || !(constantsAlone 8 u && constantsAlone 8 v))) = true := hc
    rw [Bool.and_eq_true] at hc'
    obtain ⟨hc', hsw⟩ := hc'
    simp only [Bool.and_eq_true, Bool.not_eq_true', decide_eq_true_eq] at hc'
    obtain ⟨⟨⟨⟨⟨⟨⟨⟨⟨⟨h1, h2⟩, h3⟩, h4⟩, h5⟩, h6⟩, h7⟩, h8⟩, h9⟩, h10⟩, h11⟩ := hc'
    have nxy : x ≠ y := fun z => by
      subst z
      exact h1 ((List.getElem?_inj (List.getElem?_eq_some_iff.mp h2).1 g.nd).mp (h2.trans h3.symm))
    simp only [exec] at hx
    obtain ⟨ra, t1, e1, hx⟩ := bd_eq hx
    obtain ⟨rb, t2, e2, hx⟩ := bd_eq hx
    simp only [Option.bind_eq_some_iff, Option.map_eq_some_iff] at hx
    obtain ⟨ρ1, hb1, ρ2, hb2, z⟩ := hx
    cases z
    obtain ⟨J, lJ, k⟩ := st.frz fz
    have pa : PA X [u, v] (tCons (wE X u) (tCons (wE X v) tNil)) := pa_cons (pe_w u) (pa_cons (pe_w v) pa_nil (star_cons h7)) (star_cons h6)
    -- both values, then both names
    have key : ∀ {Q : List V → Hp → Prop}, (∀ xv yv H2 I2, Le I I2 → HS sr H2 I2 t' → (∀ H3, (∀ l o, H2 l = some o → H3 l = some o) → HS sr H3 I2 t' → Ext sr H0 I0 H3 I2 → ST sr X.K H0 I0 ρ' t' ((σ.set i (some xv)).set j (some yv)) H3 I2) → Ext sr H0 I0 H2 I2 → Q [xv, yv] H2) → tCons (wE X u) (tCons (wE X v) tNil) σ H Q := by
      intro Q q
      refine (snd a).ex g.toGX e1 k.hs k.r h8 h10 fun xv H1 I1 hs1 x1 rr1 => ?_
      have k1 := k.ext hs1 x1
      refine (snd b).ex g.toGX e2 hs1 k1.r h9 h11 fun yv H2 I2 hs2 x2 rr2 => ?_
      have k2 := k1.ext hs2 x2
      have in1 := k.inR hs1 x1 rr1 (bind_nk hb1)
      have in2 := k1.inR hs2 x2 rr2 (bind_nk hb2)
      refine q xv yv H2 I2 ((lJ.trans x1.im).trans x2.im) hs2 (fun H3 l3 hs3 x3 => ?_) k2.x
      have s3 : ST sr X.K H0 I0 (PyI.frz ρ fz) t' σ H3 I2 := ⟨hs3, x3, ⟨k2.r.len, k2.r.val, fun m d e => by
        obtain ⟨l, b1, b2, b3, b4, b5, b6⟩ := k2.r.own m d e
        exact ⟨l, b1, b2, b3, b4, b5, b6.le (fun _ z => l3 _ _ z) (.refl _)⟩, k2.r.dis⟩⟩
      have i1 : InR sr X.K H0 (PyI.frz ρ fz) σ H3 I2 xv ra := by
        cases ra with
        | v d => exact Rep.le x2.im in1
        | k d => exact in1
        | o d =>
          obtain ⟨l, c1, c2, c3, c4, c5, c6, c7⟩ := in1
          obtain ⟨o, ho⟩ := c6.some
          refine ⟨l, c1, c2, c3, c4, none_of fun ⟨w, z⟩ => ?_, c6.le (fun _ z => l3 _ _ (x2.keep _ _ z c3 c4)) x2.im, c7⟩
          rcases x2.new l (by rw [z]; simp) with z | z
          · exact z c5
          · rw [ho] at z; cases z
      have s4 := s3.bind hb1 i1
      refine s4.bind hb2 ?_
      cases rb with
      | v d => exact in2
      | k d => exact in2
      | o d =>
        obtain ⟨l, c1, c2, c3, c4, c5, c6, c7⟩ := in2
        refine ⟨l, c1, c2, c3, c4, c5, c6.le (fun _ z => l3 _ _ z) (.refl _), fun m e z1 z2 => ?_⟩
        rw [set_get] at z2
        by_cases hm : i = m
        · subst hm
          rw [if_pos rfl] at z2
          split at z2
          · injection z2 with z2; injection z2 with z2
            -- the first value's object is older than the second one's
            subst z2
            obtain ⟨l', d1, d2, _⟩ := rr2
            rw [c1] at d1
            injection d1 with d1
            subst d1
            cases ra with
            | v d' =>
              have hb1' : (PyI.frz ρ fz).set i (some (.v d')) = ρ1 := Option.some.inj hb1
              rw [← hb1', set_get, if_pos rfl] at z1
              split at z1
              · injection z1 with z1; injection z1 with z1; cases z1
              · cases z1
            | k d' => exact in1.elim
            | o d' =>
              obtain ⟨l'', f1, f2, f3, f4, f5, f6, _⟩ := in1
              injection f1 with f1
              subst f1
              obtain ⟨o, ho⟩ := f6.some
              rw [ho] at d2; cases d2
          · cases z2
        · rw [if_neg hm] at z2
          have z1' : (PyI.frz ρ fz)[m]? = some (some (.o e)) := by
            cases ra with
            | v d' =>
              have hb1' : (PyI.frz ρ fz).set i (some (.v d')) = ρ1 := Option.some.inj hb1
              rw [← hb1', set_get, if_neg hm] at z1
              exact z1
            | k d' => exact in1.elim
            | o d' =>
              have hb1' : (PyI.frz ρ fz).set i (some (.o d')) = ρ1 := Option.some.inj hb1
              rw [← hb1', set_get, if_neg hm] at z1
              exact z1
          exact c7 m e z1' z2
    by_cases hs : (locl X.env.scope x && locl X.env.scope y && py.line == px.line) = true ∧ (foldedForSure 8 u && foldedForSure 8 v) = false
    · have hs1 := hs.1
      simp only [Bool.and_eq_true] at hs1
      have lx : X.env.scope.names.lookup x = some .local := by
        have := hs1.1.1
        unfold locl at this
        split at this
        · assumption
        · cases this
      have ly : X.env.scope.names.lookup y = some .local := by
        have := hs1.1.2
        unfold locl at this
        split at this
        · assumption
        · cases this
      have hca : (constantsAlone 8 u && constantsAlone 8 v) = false := by
        cases hq : (constantsAlone 8 u && constantsAlone 8 v) with
        | false => rfl
        | true => rw [hs.1, hs.2, hq] at hsw; cases hsw
      refine wS.of (pss_one (ps_par g.calm g.nd h2 h3 h1 lx ly pa (swap_yes g.fk lx ly hs1.2 nxy h6 h7 hs.2 hca))) ?_
      exact key fun xv yv H2 I2 le2 hs2 mk x2 => ⟨xv, yv, rfl, p _ H2 I2 (mk H2 (fun _ _ z => z) hs2 x2) le2⟩
    · have hno : (locl X.env.scope x && locl X.env.scope y && py.line == px.line) = false ∨ (foldedForSure 8 u && foldedForSure 8 v) = true := by
        cases hq : (locl X.env.scope x && locl X.env.scope y && py.line == px.line) with
        | false => exact .inl rfl
        | true =>
          cases hq2 : (foldedForSure 8 u && foldedForSure 8 v) with
          | true => exact .inr rfl
          | false => exact absurd ⟨hq, hq2⟩ hs
      have pg : PG X (.Tuple [.Name x px, .Name y py] k1 p1) (gTup X.K 2 (gCons (gName i) (gCons (gName j) gNil))) :=
        pg_tup g.calm (pgs_cons (pg_name g.nd h2 (loc_of h4) (.inl (g.fn x))) (pgs_cons (pg_name g.nd h3 (loc_of h5) (.inl (g.fn y))) pgs_nil))
      refine wS.of (pss_one (ps_asg (pe_tup pa) pg rfl (swap_no g.fk h6 h7 hno nxy) rfl)) ?_
      show tCons (wE X u) (tCons (wE X v) tNil) σ H (fun xs H1 => xs.length ≤ sizeLine ∧ ∀ p, H1 p = none → gTup X.K 2 (gCons (gName i) (gCons (gName j) gNil)) (.ref p) σ (upd H1 p (.tup xs)) D.nx)
      refine key fun xv yv H2 I2 le2 hs2 mk x2 => ⟨by show 2 ≤ sizeLine; decide, fun q nq => ?_⟩
      refine ⟨q, [xv, yv], rfl, .inl (.inl upd_same), rfl, xv, [yv], rfl, yv, [], rfl, rfl, ?_⟩
      have hs3 : HS sr (upd H2 q (.tup [xv, yv])) I2 t' := hs2.newO nq
      exact p _ _ I2 (mk _ (fun l o z => Le.upd nq l o z) hs3 ⟨x2.im, fun a' o z n1 n2 => Le.upd nq _ _ (x2.keep a' o z n1 n2), x2.new⟩) le2

theorem swap_yes3 {X : Cx} (hk : X.env.scope.kind = .function) {x y z : Str} {px py pz p1 p2 : Pos} {k1 k2 : Nat} {u v w : Expr} (hx : X.env.scope.names.lookup x = some .local) (hy : X.env.scope.names.lookup y = some .local) (hz : X.env.scope.names.lookup z = some .local) (hl : (py.line == px.line) = true) (hl2 : (pz.line == px.line) = true) (ne : x ≠ y) (ne2 : x ≠ z) (ne3 : y ≠ z)
    (su : nonStar u = true) (sv : nonStar v = true) (sw : nonStar w = true) (hf : (foldedForSure 8 u && foldedForSure 8 v && foldedForSure 8 w) = false) (hc : (constantsAlone 8 u && constantsAlone 8 v && constantsAlone 8 w) = false) :
    swappedStores [.Tuple [.Name x px, .Name y py, .Name z pz] k1 p1] (.Tuple [u, v, w] k2 p2) X.env = pure (some [x, y, z]) := by
  have hb : X.env.blockKind = .function := by unfold Env.blockKind; rw [hk]; rfl
  have kx : X.env.kindOf x = some .local := hx
  have ky : X.env.kindOf y = some .local := hy
  have kz : X.env.kindOf z = some .local := hz
  have hl' : py.line = px.line := by simpa using hl
  have hl2' : pz.line = px.line := by simpa using hl2
  have h2 : ([x, y, z] : List Str).eraseDups.length = 3 := by
    have a1 : (y == x) = false := by simpa using (fun e => ne e.symm)
    have a2 : (z == x) = false := by simpa using (fun e => ne2 e.symm)
    have a3 : (z == y) = false := by simpa using (fun e => ne3 e.symm)
    simp [List.eraseDups, List.eraseDupsBy, List.eraseDupsBy.loop, a1, a2, a3]
  have hf' : (foldedForSure 8 u && (foldedForSure 8 v && foldedForSure 8 w)) = false := by rw [← Bool.and_assoc]; exact hf
  have hc' : (constantsAlone 8 u && (constantsAlone 8 v && constantsAlone 8 w)) = false := by rw [← Bool.and_assoc]; exact hc
  unfold swappedStores
  simp only [List.length_cons, List.length_nil, hb, kx, ky, kz, List.any_cons, List.any_nil, List.all_cons, List.all_nil, List.filterMap_cons, List.filterMap_nil, Expr.pos, hl', hl2', List.head?_cons, Option.map_some, Option.getD_some, Bool.or_false, Bool.and_true, hf', hc']
  rw [if_neg (by decide)]
  refine (if_neg fun h => ?_).trans ?_
  · rcases (Bool.or_eq_true _ _).mp h with q | q
    · cases u <;> first | (cases su; done) | cases q
    · rcases (Bool.or_eq_true _ _).mp q with q | q
      · cases v <;> first | (cases sv; done) | cases q
      · cases w <;> first | (cases sw; done) | cases q
  simp only [beq_self_eq_true, Bool.and_self, if_true]
  rw [if_neg (by rw [h2]; simp), if_neg Bool.false_ne_true, if_neg Bool.false_ne_true]
theorem swap_no3 {X : Cx} (hk : X.env.scope.kind = .function) {x y z : Str} {px py pz p1 p2 : Pos} {k1 k2 : Nat} {u v w : Expr} (su : nonStar u = true) (sv : nonStar v = true) (sw : nonStar w = true)
    (h : (locl X.env.scope x && locl X.env.scope y && locl X.env.scope z && py.line == px.line && pz.line == px.line) = false ∨ (foldedForSure 8 u && foldedForSure 8 v && foldedForSure 8 w) = true) :
    swappedStores [.Tuple [.Name x px, .Name y py, .Name z pz] k1 p1] (.Tuple [u, v, w] k2 p2) X.env = pure none := by
  have hb : X.env.blockKind = .function := by unfold Env.blockKind; rw [hk]; rfl
  unfold swappedStores
  simp only [List.length_cons, List.length_nil, hb, List.any_cons, List.any_nil, List.all_cons, List.all_nil, List.filterMap_cons, List.filterMap_nil, Expr.pos, List.head?_cons, Option.map_some, Option.getD_some, Bool.or_false, Bool.and_true, locl_eq, beq_self_eq_true]
  rw [if_neg (by decide)]
  refine (if_neg fun h => ?_).trans ?_
  · rcases (Bool.or_eq_true _ _).mp h with q | q
    · cases u <;> first | (cases su; done) | cases q
    · rcases (Bool.or_eq_true _ _).mp q with q | q
      · cases v <;> first | (cases sv; done) | cases q
      · cases w <;> first | (cases sw; done) | cases q
  rcases h with h | h
  · cases hx : locl X.env.scope x <;> cases hy : locl X.env.scope y <;> cases hz : locl X.env.scope z <;> cases hl : (py.line == px.line) <;> cases hl2 : (pz.line == px.line) <;> rw [hx, hy, hz, hl, hl2] at h <;> first | (cases h; done) | (simp; done) | simp
  · have h' : (foldedForSure 8 u && (foldedForSure 8 v && foldedForSure 8 w)) = true := by rw [← Bool.and_assoc]; exact h
    cases hx : locl X.env.scope x <;> cases hy : locl X.env.scope y <;> cases hz : locl X.env.scope z <;> cases hl : (py.line == px.line) <;> cases hl2 : (pz.line == px.line) <;> (
      simp only [Bool.and_true, Bool.and_false, Bool.true_and, Bool.false_and, if_true, Bool.false_eq_true, if_false, h']
      split <;> rfl)
theorem local_of {sc : Scope} {x : Str} (h : locl sc x = true) : sc.names.lookup x = some .local := by
  unfold locl at h
  split at h
  · assumption
  · cases h

theorem st_par3 {fz : List Nat} {i j l0 : Nat} {a b c : C} : SSt sr O F T W (.par3 fz i j l0 a b c) := by
  intro n X g ρ ρ' t t' o hx σ H I H0 I0 st l hc D p
  cases l with
  | nil => exact absurd hc Bool.false_ne_true
  | cons s0 l =>
    cases s0 <;> first | exact absurd hc Bool.false_ne_true | skip
    rename_i ts vv pos
    cases ts <;> first | exact absurd hc Bool.false_ne_true | skip
    rename_i tt ts
    cases tt <;> first | exact absurd hc Bool.false_ne_true | skip
    rename_i ns k1 p1
    cases ns <;> first | exact absurd hc Bool.false_ne_true | skip
    rename_i n1 ns
    cases n1 <;> first | exact absurd hc Bool.false_ne_true | skip
    rename_i x px
    cases ns <;> first | exact absurd hc Bool.false_ne_true | skip
    rename_i n2 ns
    cases n2 <;> first | exact absurd hc Bool.false_ne_true | skip
    rename_i y py
    cases ns <;> first | exact absurd hc Bool.false_ne_true | skip
    rename_i n3 ns
    cases n3 <;> first | exact absurd hc Bool.false_ne_true | skip
    rename_i z pz
    cases ns <;> first | exact absurd hc Bool.false_ne_true | skip
    cases ts <;> first | exact absurd hc Bool.false_ne_true | skip
    cases vv <;> first | exact absurd hc Bool.false_ne_true | skip
    rename_i vs k2 p2
    cases vs <;> first | exact absurd hc Bool.false_ne_true | skip
    rename_i u vs
    cases vs <;> first | exact absurd hc Bool.false_ne_true | skip
    rename_i v vs
    cases vs <;> first | exact absurd hc Bool.false_ne_true | skip
    rename_i w vs
    cases vs <;> first | exact absurd hc Bool.false_ne_true | skip
    cases l <;> first | exact absurd hc Bool.false_ne_true | skip
    have hc' : (decide (i ≠ j) && decide (i ≠ l0) && decide (j ≠ l0) && decide (X.N[i]? = some x) && decide (X.N[j]? = some y) && decide (X.N[l0]? = some z) && locB X.env.scope x && locB X.env.scope y && locB X.env.scope z && nonStar u && nonStar v && nonStar w && !isIt a && !isIt b && !isIt c && chk T X.N a X.env.scope [u] && chk T X.N b X.env.scope [v] && chk T X.N c X.env.scope [w] &&
      (!(locl X.env.scope x && locl X.env.scope y && locl X.env.scope z && py.line == px.line && pz.line == px.line) || (foldedForSure 8 u && foldedForSure 8 v && foldedForSure 8 w) || !(constantsAlone 8 u && constantsAlone 8 v && constantsAlone 8 w))) = true := hc
    rw [Bool.and_eq_true] at hc'
    obtain ⟨hc', hsw⟩ := hc'
    simp only [Bool.and_eq_true, Bool.not_eq_true', decide_eq_true_eq] at hc'
    obtain ⟨⟨⟨⟨⟨⟨⟨⟨⟨⟨⟨⟨⟨⟨⟨⟨⟨h1, h2⟩, h3⟩, n1⟩, n2⟩, n3⟩, l1⟩, l2⟩, l3⟩, s1⟩, s2⟩, s3⟩, i1⟩, i2⟩, i3⟩, c1⟩, c2⟩, c3⟩ := hc'
    have apart : ∀ {i j : Nat} {x y : Str}, i ≠ j → X.N[i]? = some x → X.N[j]? = some y → x ≠ y := fun {i j x y} h a b z => by
      subst z
      exact h ((List.getElem?_inj (List.getElem?_eq_some_iff.mp a).1 g.nd).mp (a.trans b.symm))
    simp only [exec] at hx
    obtain ⟨ra, t1, e1, hx⟩ := bd_eq hx
    obtain ⟨rb, t2, e2, hx⟩ := bd_eq hx
    obtain ⟨rc, t3, e3, hx⟩ := bd_eq hx
    split at hx
    · rename_i da db dc z1 z2 z3
      cases hx
      obtain ⟨J, lJ, k⟩ := st.frz fz
      have pa : PA X [u, v, w] (tCons (wE X u) (tCons (wE X v) (tCons (wE X w) tNil))) := pa_cons (pe_w u) (pa_cons (pe_w v) (pa_cons (pe_w w) pa_nil (star_cons s3)) (star_cons s2)) (star_cons s1)
      have key : ∀ {Q : List V → Hp → Prop}, (∀ xv yv zv H3 I3, Le I I3 → HS sr H3 I3 t' → ST sr X.K H0 I0 (PyI.frz ρ fz) t' σ H3 I3 → Rep X.K sr.g1 I3 xv da → Rep X.K sr.g1 I3 yv db → Rep X.K sr.g1 I3 zv dc → Q [xv, yv, zv] H3) → tCons (wE X u) (tCons (wE X v) (tCons (wE X w) tNil)) σ H Q := by
        intro Q q
        refine (snd a).ex g.toGX e1 k.hs k.r i1 c1 fun xv H1 I1 hs1 x1 rr1 => ?_
        obtain ⟨J1, hsJ1, xJ1, rep1⟩ := rr1.frz hs1 x1 z1
        have k1 := k.ext hsJ1 xJ1
        refine (snd b).ex g.toGX e2 hsJ1 k1.r i2 c2 fun yv H2 I2 hs2 x2 rr2 => ?_
        obtain ⟨J2, hsJ2, xJ2, rep2⟩ := rr2.frz hs2 x2 z2
        have k2 := k1.ext hsJ2 xJ2
        refine (snd c).ex g.toGX e3 hsJ2 k2.r i3 c3 fun zv H3 I3 hs3 x3 rr3 => ?_
        obtain ⟨J3, hsJ3, xJ3, rep3⟩ := rr3.frz hs3 x3 z3
        have k3 := k2.ext hsJ3 xJ3
        exact q xv yv zv H3 J3 (((lJ.trans xJ1.im).trans xJ2.im).trans xJ3.im) hsJ3 k3 ((rep1.le xJ2.im).le xJ3.im) (rep2.le xJ3.im) rep3
      have fin : ∀ {xv yv zv H3 I3}, ST sr X.K H0 I0 (PyI.frz ρ fz) t' σ H3 I3 → Rep X.K sr.g1 I3 xv da → Rep X.K sr.g1 I3 yv db → Rep X.K sr.g1 I3 zv dc → ST sr X.K H0 I0 ((((PyI.frz ρ fz).set i (some (.v da))).set j (some (.v db))).set l0 (some (.v dc))) t' (((σ.set i (some xv)).set j (some yv)).set l0 (some zv)) H3 I3 :=
        fun {xv yv zv H3 I3} k3 r1 r2 r3 => ((k3.bind (r := .v da) rfl r1).bind (r := .v db) rfl r2).bind (r := .v dc) rfl r3
      by_cases hs : (locl X.env.scope x && locl X.env.scope y && locl X.env.scope z && py.line == px.line && pz.line == px.line) = true ∧ (foldedForSure 8 u && foldedForSure 8 v && foldedForSure 8 w) = false
      · have hs1 := hs.1
        simp only [Bool.and_eq_true] at hs1
        have lx := local_of hs1.1.1.1.1
        have ly := local_of hs1.1.1.1.2
        have lz := local_of hs1.1.1.2
        have hca : (constantsAlone 8 u && constantsAlone 8 v && constantsAlone 8 w) = false := by
          cases hq : (constantsAlone 8 u && constantsAlone 8 v && constantsAlone 8 w) with
          | false => rfl
          | true => rw [hs.1, hs.2, hq] at hsw; cases hsw
        refine wS.of (pss_one (ps_par3 g.calm g.nd n1 n2 n3 h1 h2 h3 lx ly lz pa (swap_yes3 g.fk lx ly lz hs1.1.2 hs1.2 (apart h1 n1 n2) (apart h2 n1 n3) (apart h3 n2 n3) s1 s2 s3 hs.2 hca))) ?_
        exact key fun xv yv zv H3 I3 le hs3 k3 r1 r2 r3 => ⟨xv, yv, zv, rfl, p _ H3 I3 (fin k3 r1 r2 r3) le⟩
      · have hno : (locl X.env.scope x && locl X.env.scope y && locl X.env.scope z && py.line == px.line && pz.line == px.line) = false ∨ (foldedForSure 8 u && foldedForSure 8 v && foldedForSure 8 w) = true := by
          cases hq : (locl X.env.scope x && locl X.env.scope y && locl X.env.scope z && py.line == px.line && pz.line == px.line) with
          | false => exact .inl rfl
          | true =>
            cases hq2 : (foldedForSure 8 u && foldedForSure 8 v && foldedForSure 8 w) with
            | true => exact .inr rfl
            | false => exact absurd ⟨hq, hq2⟩ hs
        have pg : PG X (.Tuple [.Name x px, .Name y py, .Name z pz] k1 p1) (gTup X.K 3 (gCons (gName i) (gCons (gName j) (gCons (gName l0) gNil)))) :=
          pg_tup g.calm (pgs_cons (pg_name g.nd n1 (loc_of l1) (.inl (g.fn x))) (pgs_cons (pg_name g.nd n2 (loc_of l2) (.inl (g.fn y))) (pgs_cons (pg_name g.nd n3 (loc_of l3) (.inl (g.fn z))) pgs_nil)))
        refine wS.of (pss_one (ps_asg (pe_tup pa) pg rfl (swap_no3 g.fk s1 s2 s3 hno) rfl)) ?_
        show tCons (wE X u) (tCons (wE X v) (tCons (wE X w) tNil)) σ H (fun xs H1 => xs.length ≤ sizeLine ∧ ∀ p, H1 p = none → gTup X.K 3 (gCons (gName i) (gCons (gName j) (gCons (gName l0) gNil))) (.ref p) σ (upd H1 p (.tup xs)) D.nx)
        refine key fun xv yv zv H3 I3 le hs3 k3 r1 r2 r3 => ⟨by show 3 ≤ sizeLine; decide, fun q nq => ?_⟩
        refine ⟨q, [xv, yv, zv], rfl, .inl (.inl upd_same), rfl, xv, [yv, zv], rfl, yv, [zv], rfl, zv, [], rfl, rfl, ?_⟩
        exact p _ _ I3 (fin (k3.ext (hs3.newO nq) (.newO nq)) r1 r2 r3) le
    · cases hx

/-- every statement -/
theorem snds : ∀ s : S, SSt sr O F T W s := by
  intro s
  induction s with
  | asg fz tg e => exact st_asg
  | par fz i j a b => exact st_par
  | par3 fz i j l a b c => exact st_par3
  | sto fz i ix e => exact st_sto
  | app fz i e => exact st_app
  | ext fz i e => exact st_ext
  | ex fz e => exact st_ex
  | pop j i => exact st_pop
  | ret fz e => exact st_ret
  | ifs fz c a b iha ihb => exact st_ifs iha ihb
  | whl fz c b ih => exact st_whl ih
  | fr fz tg it b ih => exact st_fr ih
  | brk => exact st_brk
  | cnt => exact st_cnt
  | pas => exact st_pas
  | seq a b iha ihb => exact st_seq iha ihb
end PyI

set_option Elab.async false
set_option linter.all false
set_option maxRecDepth 100000
set_option maxHeartbeats 4000000
/-! PyI: defs, the program, the law's call. -/
namespace PyI
open PySem PySem.Spec PyProof.Rows L2

/-- a def of the text, by its body's reading; nothing leaves it, no repr is under way -/
theorem okG {P : Program} {w : World} {K : PySem.W.Frag} {mg : Str → Option Value} {base : Heap} {x qual : Str} {st : Stmt} {f : Addr} {fd : FuncData} {N ps : List Str} {k : Nat} {sp : Sp} (F : Fun K x qual st f fd) (S : FnScope N ps (defScope st))
    (len : ∀ vs H Q E, sp vs H Q E → vs.length = ps.length)
    (hbody : ∀ (cdv : Value) (A : Around) (outer : List PySem.Env) (s : Shared) (H : Hp) (vs : List V) (Q : VK) (E : XK), A.guards = some [] → Room k (A.deeper (envOfC qual (defScope st) s.heap.objs.size f cdv)) → sp vs H Q E →
      wS (cxOf CX0 P w K mg base N qual (defScope st) f cdv A outer s H E).nox (defBody st) { nx := fun _ H' => Q .non H', rt := Q } (start N vs) H) : FnG P w K mg base (k + 1) f fd ps sp := by
  obtain ⟨oc, od, kV, doc, pm, an, cdv, ct, osl, rfl, lk, hcd⟩ := F.ex
  refine ⟨len, fun A outer s H args us vs Q E hg hr e0 hb r hsp => ?_⟩
  have hl := len _ _ _ _ hsp
  have up : ∀ b o, base.get? b = some o → s.heap.get? b = some o := fun b o e => (e0.bs b o e).1
  have KX : K.In s.heap := e0.mod.kin.keeps up
  have lim : s.heap.NoLimit := e0.mod.nolimit.keeps up
  refine codeAny_call_function hr.depth (KX _ _ lk) rfl S.co S.gen rfl (PySem.W.codeRec_of KX hcd) (hb _ _ _ _ ?_)
  refine wpAny_newFunctionEnv_cells S.kind (fun ⟨y, v⟩ hy => ?_) fun env he s1 q => ?_
  · rcases S.par y (List.of_mem_zip hy).1 with z | z
    · exact .inl z
    · exact .inr ⟨z, PySem.W.cellsFrom_some _ _ _ (.inl z)⟩
  subst he
  refine ⟨lim.keeps q.toInCall.keep, codeAny_func ?_⟩
  have J := inv_start (CX := CX0) (P := P) (mg := mg) (N := N) (E := E) S hr.hd e0 hl r q
  have run := hbody cdv A outer s H vs Q E hg (hr.deeper _) hsp [] s1 (J.wish _)
  refine wpAny_mono run (fun fl s' hs => ?_) fun e s' hs => False.elim hs
  have hs' := SP.unwish hs
  cases fl with
  | ret u =>
    obtain ⟨v, σ', H', J', rv, q'⟩ := hs'
    exact ⟨v, H', J'.os, J'.bare, J'.base, J'.hok, rv, q'⟩
  | next =>
    obtain ⟨σ', H', J', q'⟩ := hs'
    exact ⟨.non, H', J'.os, J'.bare, J'.base, J'.hok, rfl, q'⟩
  | brk => obtain ⟨_, _, _, q'⟩ := hs'; exact False.elim q'
  | cont => obtain ⟨_, _, _, q'⟩ := hs'; exact False.elim q'

/-- a def with its term -/
structure PF where
  name : Str
  qual : Str
  st : Stmt
  N : List Str
  ps : List Str
  fn : Fn
def fsB (N ps : List Str) (sc : Scope) : Bool := decide (sc.kind = .function) && !sc.isCoroutine && !sc.isGenerator && decide N.Nodup && decide (N.take ps.length = ps) && ps.all (fun x => locB sc x) && sc.names.all (fun y => decide (y.2 ≠ .free))
theorem fs_of {N ps : List Str} {sc : Scope} (h : fsB N ps sc = true) : FnScope N ps sc := by
  unfold fsB at h
  simp only [Bool.and_eq_true, decide_eq_true_eq, Bool.not_eq_true', List.all_eq_true] at h
  obtain ⟨⟨⟨⟨⟨⟨h1, h2⟩, h3⟩, h4⟩, h5⟩, h6⟩, h7⟩ := h
  exact ⟨h1, h2, h3, h4, h5, fun x hx => loc_of (h6 x hx), h7⟩
def PF.ok (T : Nat → Option Str) (p : PF) : Bool := fsB p.N p.ps (defScope p.st) && chkS T p.N (defScope p.st) p.fn.body (defBody p.st) && decide (p.fn.np = p.ps.length) && decide (p.fn.nN = p.N.length)

section
variable {τ : Type} {sr : Sr τ} {O : Pk τ} {W : Nat} {T : Nat → Option Str} {prog : Nat → Option Fn} {P : Program} {w : World} {K : PySem.W.Frag} {mg : Str → Option Value} {base : Heap}
structure ProgOk (T : Nat → Option Str) (prog : Nat → Option Fn) (K : PySem.W.Frag) (mg : Str → Option Value) : Prop where
  fns : ∀ f x, x ≠ ("math.gcd" : Str) → T f = some x → ∃ (p : PF) (fa : Addr) (fd : FuncData), p.name = x ∧ prog f = some p.fn ∧ mg x = some (.ref fa) ∧ Fun K p.name p.qual p.st fa fd ∧ Binds K fd p.ps [] ∧ p.ok T = true
  bl : ∀ x ∈ bnames, mg x = none
  gc : T 1000 = some "math.gcd" → mg "gcd" = some (.builtin "math.gcd")
def PickOk (sr : Sr τ) (O : Pk τ) (P : Program) (w : World) (K : PySem.W.Frag) (mg : Str → Option Value) (base : Heap) : Prop :=
  ∃ fa fd ps, mg "_law_pick" = some (.ref fa) ∧ PySem.W.keepIn K (.ref fa) = true ∧ Binds K fd ps [] ∧ FnG P w K mg base 1 fa fd ps (spP sr K O)
theorem run_len {f : Nat} {fn : Fn} (h : prog f = some fn) (k : Nat) (ds : List D) (t : τ) (hl : ds.length ≠ fn.np) : run O W prog k f ds t = none := by
  cases k with
  | zero => rfl
  | succ k =>
    show (match prog f with | some fn => _ | none => none) = none
    rw [h]
    show (if ds.length = fn.np then _ else none) = none
    rw [if_neg hl]
theorem sr_begin {H I : Hp} {vs : List V} {ds : List D} {fn : Fn} {N : List Str} (hN : fn.nN = N.length) (hl : ds.length = fn.np) (rs : Reps K sr.g1 I vs ds) : SR sr K H (begin_ fn ds) (start N vs) H I := by
  have e1 := rs.length
  have out : ∀ {i : Nat} {r : R}, (begin_ fn ds)[i]? = some (some r) → ∃ d, ds[i]? = some d ∧ r = .v d := fun {i r} h => by
    unfold begin_ at h
    by_cases hi : i < ds.length
    · rw [List.getElem?_append_left (by rw [List.length_map]; exact hi), List.getElem?_map, List.getElem?_eq_getElem hi] at h
      injection h with h; injection h with h
      exact ⟨ds[i], List.getElem?_eq_getElem hi, h.symm⟩
    · rw [List.getElem?_append_right (by rw [List.length_map]; omega), List.getElem?_replicate] at h
      split at h <;> cases h
  refine ⟨?_, fun i d e => ?_, fun i d e => ?_, fun i j d e l m _ q => ?_⟩
  · unfold L2.start begin_
    rw [List.length_append, List.length_append, List.length_map, List.length_map, List.length_replicate, List.length_replicate, e1, hN, hl]
  · obtain ⟨d', h1, h2⟩ := out e
    cases h2
    obtain ⟨v, h3, h4⟩ := rs.get h1
    refine ⟨v, ?_, h4⟩
    have hi : i < vs.length := (List.getElem?_eq_some_iff.mp h3).1
    unfold L2.start
    rw [List.getElem?_append_left (by rw [List.length_map]; exact hi), List.getElem?_map, h3]
    rfl
  · obtain ⟨d', _, h2⟩ := out e; cases h2
  · obtain ⟨d', _, h2⟩ := out q; cases h2
theorem tabs (p : ProgOk T prog K mg) (pk : PickOk sr O P w K mg base) : ∀ k, Tab sr O (run O W prog k) T (k + 1) P w K mg base := by
  obtain ⟨pa, pfd, pps, k1, k2, k3, k4⟩ := pk
  intro k
  induction k with
  | zero =>
    refine ⟨fun f x hn h => ?_, ⟨pa, pfd, pps, k1, k2, k3, k4.mono (by omega)⟩, p.bl, p.gc⟩
    obtain ⟨q, fa, fd, rfl, h2, h3, h4, h5, h6⟩ := p.fns f x hn h
    refine ⟨fa, fd, q.ps, q.fn.np, h3, h4.kp, h5, fun ds t hl => rfl, ⟨fun vs H Q E hsp => ?_, fun A o s H args us vs Q E _ _ _ _ _ hsp => ?_⟩⟩
    · obtain ⟨_, _, _, _, _, _, _, _, z, _⟩ := hsp; cases z
    · obtain ⟨_, _, _, _, _, _, _, _, z, _⟩ := hsp; cases z
  | succ k ih =>
    refine ⟨fun f x hn h => ?_, ⟨pa, pfd, pps, k1, k2, k3, k4.mono (by omega)⟩, p.bl, p.gc⟩
    obtain ⟨q, fa, fd, rfl, h2, h3, h4, h5, h6⟩ := p.fns f x hn h
    unfold PF.ok at h6
    simp only [Bool.and_eq_true, decide_eq_true_eq] at h6
    obtain ⟨⟨⟨c1, c2⟩, c3⟩, c4⟩ := h6
    have S := fs_of c1
    refine ⟨fa, fd, q.ps, q.fn.np, h3, h4.kp, h5, fun ds t hl => run_len h2 _ ds t hl, okG h4 S (fun vs H Q E hsp => by rw [← c3]; exact hsp.1) fun cdv A outer s H vs Q E hg hr hsp => ?_⟩
    obtain ⟨hlv, I, t, ds, r, t', hs, rs, hrun, post⟩ := hsp
    have hld : ds.length = q.fn.np := by rw [← rs.length]; exact hlv
    have hrun' : (match prog f with
      | some fn => if ds.length = fn.np then match PyI.exec O (run O W prog k) W fn.body (begin_ fn ds) t with
          | some (.nx, _, t1) => some (R.v .non, t1)
          | some (.rt r, _, t1) => some (r, t1)
          | _ => none
        else none
      | none => none) = some (r, t') := hrun
    rw [h2] at hrun'
    have hrun2 : (if ds.length = q.fn.np then match PyI.exec O (run O W prog k) W q.fn.body (begin_ q.fn ds) t with
          | some (.nx, _, t1) => some (R.v .non, t1)
          | some (.rt r, _, t1) => some (r, t1)
          | _ => none
        else none) = some (r, t') := hrun'
    rw [if_pos hld] at hrun2
    have g : GS sr O (run O W prog k) T (k + 1) (cxOf CX0 P w K mg base q.N q.qual (defScope q.st) fa cdv A outer s H E).nox :=
      { calm := rfl, gd := hg, rm := hr, nd := S.nd, xe := rfl, tab := ih, fk := S.kind, fn := fun _ => rfl }
    have st : ST sr K H I (begin_ q.fn ds) t (start q.N vs) H I := ⟨hs, .refl _ _ _, sr_begin c4 hld rs⟩
    split at hrun2
    · rename_i ρ1 t1 he
      cases hrun2
      exact snds q.fn.body g he st c2 fun σ' H' I' st' le => post .non H' I' st'.hs st'.x .non
    · rename_i r1 ρ1 t1 he
      cases hrun2
      exact snds q.fn.body g he st c2 fun v H' I' hs' x' rr => post v H' I' hs' x' rr
    · cases hrun2
end

/-! ### the law's call -/
theorem law_callG {P : Program} {w : World} {K : PySem.W.Frag} {mg mb : Str → Option Value} {k : Nat} {fa a : Addr} {fd : FuncData} {x : Str} {sp : Sp} {s₁ : Shared} {vs : List Value} {ns : List Int}
    (KX : K.In s₁.heap) (hns : s₁.heap.Ns mainGlobals mg) (hb : s₁.heap.Ns builtinsNs mb) (hbb : ∀ x : Str, x ≠ "__name__" → mb x = bootBuiltins x) (hlim : s₁.heap.NoLimit) (hg : s₁.gens = #[])
    (ha : s₁.heap.get? a = some { cls := .type "list", data := .seq vs.toArray }) (hi : IntsAre vs ns) (hl : ns.length ≤ sizeLine) (hr : Room k callerA)
    (F : ∀ base : Heap, K.In base → base.Ns mainGlobals mg → FnG P w K mg base k fa fd [x] sp) (hbind : ∀ (s : Shared) (u : Value), BindsTo s fd ⟨[u], []⟩ [(x, u)])
    (hsp : ∀ H : Hp, SqL K H a (ns.map V.int) → sp [.ref a] H (fun v _ => v = .bl true) fun _ _ _ => False) :
    codeAny (model P w) callerA (.call (.ref fa) ⟨[.ref a], []⟩) (fun r s' => r = .ok (.ret (.bool true)) ∧ OldK s₁.heap s'.heap ∧ s'.os = s₁.os ∧ AllBare s'.gens) s₁ := by
  have lenV := hi.length
  have rv : Vals (ns.map V.int) vs := vals_ints hi
  have main : ∀ H : Hp, Only H → SqL K H a (ns.map V.int) → HOk P w H s₁.heap → (∀ b, H b ≠ none → b = a) → (H a ≠ none → K.lookup a = none) →
      codeAny (model P w) callerA (.call (.ref fa) ⟨[.ref a], []⟩) (fun r s' => r = .ok (.ret (.bool true)) ∧ OldK s₁.heap s'.heap ∧ s'.os = s₁.os ∧ AllBare s'.gens) s₁ := by
    intro H onl hS okH onA notK
    have isA : ∀ {b : Addr}, H b ≠ none → b = a := fun {b} z => onA b z
    have dictOff : ∀ {b : Addr} {o : Obj} {es : Array DictEntry} {ep : Nat}, s₁.heap.get? b = some o → o.data = .dict es ep → H b = none := fun {b o es ep} e d => none_of fun ⟨u, q⟩ => by
      have z := isA (b := b) (by rw [q]; exact fun z => nomatch z)
      subst z
      rw [ha] at e
      cases e
      cases (show Data.seq vs.toArray _ = Data.dict es ep from d)
    have nsT : ∀ {b : Addr} {m : Str → Option Value}, s₁.heap.Ns b m → (hidT s₁.heap H).Ns b m := fun {b m} ⟨o, es, ep, e, d, q⟩ => ⟨o, es, ep, hidT_get e (dictOff e d), d, q⟩
    have kinT : K.In (hidT s₁.heap H) := fun b o e => hidT_get (KX b o e) (none_of fun ⟨u, q⟩ => by
      have z := isA (b := b) (by rw [q]; exact fun z => nomatch z)
      subst z
      rw [notK (by rw [q]; exact fun z => nomatch z)] at e
      cases e)
    have modT : Mod K mg (hidT s₁.heap H) := ⟨kinT, nsT hns, ⟨mb, nsT hb, hbb⟩, let ⟨mc, h1, h2⟩ := hlim; ⟨mc, nsT h1, h2⟩⟩
    have e0 : Env0 P w K mg (hidT s₁.heap H) callerA [] s₁ H := ⟨rfl, modT, fun b o e => of_hidT e, Nat.le_of_eq (hidT_size _ _), trivial, fun b z => (by cases z), okH, .of_eq hg⟩
    refine codeAny_mono ((F _ kinT (nsT hns)).run callerA [] s₁ H ⟨[.ref a], []⟩ [.ref a] [.ref a] _ _ rfl hr e0 (hbind s₁ (.ref a)) (.cons rfl .nil) (hsp H hS)) fun r s' h => ?_
    cases r with
    | error e => exact False.elim h
    | ok fl =>
      cases fl with
      | ret u =>
        obtain ⟨v, H', os, bare, un, hok', r', q⟩ := h
        subst q
        obtain rfl : u = Value.bool true := r'
        refine ⟨rfl, OldK.of_keep fun b o e => ?_, os, bare⟩
        cases q : H b with
        | none => exact un.keep b o e q (fun z => by cases z) (fun z => by cases z)
        | some u =>
          rcases onl b with z | ⟨ob, xs, z⟩
          · rw [q] at z; cases z
          · obtain ⟨e1, _⟩ := okH b _ z
            obtain ⟨e2, _⟩ := hok' b _ (un.frzs b ob _ z)
            rw [e] at e1; cases e1
            exact e2
      | next => exact h.elim
      | brk => exact h.elim
      | cont => exact h.elim
  cases hk : K.lookup a with
  | some o =>
    have e := KX a o hk
    rw [ha] at e
    cases e
    exact main (fun _ => none) (fun _ => .inl rfl) (.inr ⟨_, vs.toArray, _, hk, rfl, rfl, rfl, by rw [List.size_toArray, lenV]; exact hl, by simpa using rv⟩) (fun b u z => by cases (show (none : Option HO) = some u from z)) (fun b z => absurd rfl z) fun z => absurd rfl z
  | none =>
    refine main (fun b => if b = a then some (.frz { cls := .type "list", data := .seq vs.toArray } (.lst (ns.map V.int))) else none) (fun b => ?_) (.inl (.inr ⟨_, if_pos rfl⟩)) (fun b u z => ?_) (fun b z => ?_) fun _ => hk
    · by_cases hb : b = a
      · exact .inr ⟨_, _, if_pos hb⟩
      · exact .inl (if_neg hb)
    · by_cases hb : b = a
      · cases (if_pos hb).symm.trans z
        subst hb
        exact ⟨ha, by rw [List.length_map]; exact hl, vs, _, rv, ha⟩
      · cases (if_neg hb).symm.trans z
    · exact Decidable.byContradiction fun hb => z (if_neg hb)

theorem walk_G {l : PySem.W.OpenLaw} {n k : Nat} {q : Program} {loose : List Str} {XP : (Str → Option Value) → Heap → Prop} {YP : World → Heap → Prop} {d : DefRec} {K : Params → PySem.W.Frag} {sp : World → Sp} {x : Str}
    (hn : l.most = some n) (hn2 : n ≤ sizeLine) (hdf : d.params.defaults = []) (hr : Room k callerA) (hY : ∀ (w : World) (h : Heap), YP w h → (K w.params).In h)
    (F : ∀ (w : World) (mg : Str → Option Value) (fa : Addr) (h : Heap), (K w.params).In h → h.Ns mainGlobals mg → mg d.name = some (.ref fa) →
      ∃ fd : FuncData, (∀ (s : Shared) (u : Value), BindsTo s fd ⟨[u], []⟩ [(x, u)]) ∧ ∀ base : Heap, (K w.params).In base → base.Ns mainGlobals mg → FnG l.prog w (K w.params) mg base k fa fd [x] (sp w))
    (hsp : ∀ (w : World) (H : Hp) (a : Addr) (ns : List Int), ns.length ≤ n → SqL (K w.params) H a (ns.map V.int) → sp w [.ref a] H (fun v _ => v = .bl true) fun _ _ _ => False) :
    PySem.W.WalkO q loose XP YP l.row.toRowW d [] (fun f vs => PySem.call f vs) := by
  refine Att.attach_call hn hdf fun w s0 s1 mg mb fa o pm cd doc a vs ns G Y ho hd hcd hmg hobj hints hlen hg => ?_
  have KX := hY w _ Y
  obtain ⟨fd, hb, hF⟩ := F w mg fa _ KX G.T.g hmg
  exact law_callG KX G.T.g G.T.b G.T.builtins G.T.nolimit hg hobj hints (Nat.le_trans hlen hn2) hr hF hb fun H hS => hsp w H a ns hlen hS
end PyI

set_option Elab.async false
set_option linter.all false
set_option maxRecDepth 100000
set_option maxHeartbeats 4000000
/-! PyI: the drawing of most laws. -/
namespace PyI
open PySem PySem.Spec PyProof.Rows L2

theorem ift {c : Bool} {A B : Prop} (h : c = true) (a : A) : if c = true then A else B := by rw [if_pos h]; exact a
theorem ifF {c : Bool} {A B : Prop} (h : ¬ c = true) (b : B) : if c = true then A else B := by rw [if_neg h]; exact b
structure Src2 where
  cells : List Int
  left : Int
  mixed : Int
  turn : Int
def sr2 (g1 g2 : Addr) : Sr Src2 := ⟨g1, g2, fun t => .dK [(.inr "cells", .ref g2), (.inr "left", .int t.left), (.inr "mixed", .int t.mixed), (.inr "turn", .int t.turn)], fun t => .lst (t.cells.map V.int)⟩
def pull : Nat → List Int → Int → List Int × Int
  | 0, cs, l => (cs, l)
  | n + 1, cs, l => if l < 2 then pull n cs.dropLast (cs.getLastD 0) else (cs, l)
def stir (t : Src2) : Src2 := { t with cells := (pull t.cells.length t.cells t.left).1, left := (pull t.cells.length t.cells t.left).2 }
def mixA (t : Src2) : Int := (t.mixed + (t.turn + 1) * 104729).fmod 998244353
def mixB (t : Src2) : Int := (mixA t * mixA t + (t.turn + 1) * 17).fmod 2147483647
def pick2 : Pk Src2 := fun t m => if m < 2 then (0, t) else if 1 < (stir t).left then ((stir t).left.fmod m, { stir t with left := (stir t).left.fdiv m }) else
  (((mixB (stir t)).fdiv 16).fmod m, { stir t with turn := (stir t).turn + 1 })
theorem pick2_lo {t : Src2} {m : Int} (h : m < 2) : (pick2 t m).1 = 0 := by unfold pick2; rw [if_pos h]
theorem pick2_in {t : Src2} {m : Int} (h : 1 ≤ m) : 0 ≤ (pick2 t m).1 ∧ (pick2 t m).1 < m := by
  unfold pick2
  by_cases h2 : m < 2
  · rw [if_pos h2]
    exact ⟨Int.le_refl _, by show (0 : Int) < m; omega⟩
  · rw [if_neg h2]
    split
    · exact ⟨Int.fmod_nonneg_of_pos _ (by omega), Int.fmod_lt_of_pos _ (by omega)⟩
    · exact ⟨Int.fmod_nonneg_of_pos _ (by omega), Int.fmod_lt_of_pos _ (by omega)⟩

section
variable {g1 g2 : Addr} {H H' H0 I : Hp} {t t' : Src2} {K : PySem.W.Frag}
theorem HS.apart (hs : HS (sr2 g1 g2) H I t) : g1 ≠ g2 := fun z => by
  have a := hs.a1
  have b := hs.a2
  rw [show (sr2 g1 g2).g1 = (sr2 g1 g2).g2 from z, b] at a
  cases a
theorem neS : ¬ (Str.ofString "cells" = Str.ofString "left") ∧ ¬ (Str.ofString "cells" = Str.ofString "mixed") ∧ ¬ (Str.ofString "cells" = Str.ofString "turn") ∧ ¬ (Str.ofString "left" = Str.ofString "mixed") ∧ ¬ (Str.ofString "left" = Str.ofString "turn") ∧ ¬ (Str.ofString "mixed" = Str.ofString "turn") := by decide
/-- the source stands at t, all else as in H0 -/
structure At2 (g1 g2 : Addr) (H0 H : Hp) (t : Src2) : Prop where
  a1 : H g1 = some ((sr2 g1 g2).A t)
  a2 : H g2 = some ((sr2 g1 g2).B t)
  ne : g1 ≠ g2
  old : ∀ a, a ≠ g1 → a ≠ g2 → H a = H0 a
theorem At2.fin (h : At2 g1 g2 H0 H t') (hs : HS (sr2 g1 g2) H0 I t) : HS (sr2 g1 g2) H I t' ∧ Ext (sr2 g1 g2) H0 I H I := by
  refine ⟨⟨fun a o e => ?_, hs.i1, hs.i2, h.a1, h.a2⟩, ⟨.refl _, fun a o e n1 n2 => by rw [h.old a n1 n2]; exact e, fun _ z => .inl z⟩⟩
  rw [h.old a (fun z => by subst z; exact absurd (hs.i1.symm.trans e) (by simp)) (fun z => by subst z; exact absurd (hs.i2.symm.trans e) (by simp))]
  exact hs.sub a o e

theorem neK : ¬ ((.inr "cells" : Key) = .inr "left") ∧ ¬ ((.inr "cells" : Key) = .inr "mixed") ∧ ¬ ((.inr "cells" : Key) = .inr "turn") ∧ ¬ ((.inr "left" : Key) = .inr "mixed") ∧ ¬ ((.inr "left" : Key) = .inr "turn") ∧ ¬ ((.inr "mixed" : Key) = .inr "turn") ∧ ¬ ((.inr "turn" : Key) = .inr "left") ∧ ¬ ((.inr "mixed" : Key) = .inr "left") := by decide
theorem get_cells (h : At2 g1 g2 H0 H t) : DGet H g1 (.str "cells") (some (.ref g2)) := DGet.k (k := .inr "cells") h.a1
theorem get_left (h : At2 g1 g2 H0 H t) : DGet H g1 (.str "left") (some (.int t.left)) := by
  have e : valV [((.inr "cells" : Key), V.ref g2), (.inr "left", .int t.left), (.inr "mixed", .int t.mixed), (.inr "turn", .int t.turn)] (.inr "left") = some (.int t.left) := by
    rw [valV_neg neK.1, valV_pos rfl]
  rw [← e]
  exact DGet.k (k := .inr "left") h.a1
theorem get_mixed (h : At2 g1 g2 H0 H t) : DGet H g1 (.str "mixed") (some (.int t.mixed)) := by
  have e : valV [((.inr "cells" : Key), V.ref g2), (.inr "left", .int t.left), (.inr "mixed", .int t.mixed), (.inr "turn", .int t.turn)] (.inr "mixed") = some (.int t.mixed) := by
    rw [valV_neg neK.2.1, valV_neg neK.2.2.2.1, valV_pos rfl]
  rw [← e]
  exact DGet.k (k := .inr "mixed") h.a1
theorem get_turn (h : At2 g1 g2 H0 H t) : DGet H g1 (.str "turn") (some (.int t.turn)) := by
  have e : valV [((.inr "cells" : Key), V.ref g2), (.inr "left", .int t.left), (.inr "mixed", .int t.mixed), (.inr "turn", .int t.turn)] (.inr "turn") = some (.int t.turn) := by
    rw [valV_neg neK.2.2.1, valV_neg neK.2.2.2.2.1, valV_neg neK.2.2.2.2.2.1, valV_pos rfl]
  rw [← e]
  exact DGet.k (k := .inr "turn") h.a1
theorem put_left (h : At2 g1 g2 H0 H t) (i : Int) : ∃ H', DPut H g1 (.str "left") (.int i) H' ∧ At2 g1 g2 H0 H' { t with left := i } := by
  refine ⟨_, DPut.k (k := .inr "left") h.a1 (by rw [sizeLine_eq]; show 4 < 16777216; decide), ?_, ?_, h.ne, fun a n1 n2 => ?_⟩
  · rw [upd_same]
    unfold putK
    simp only [List.any_cons, List.map_cons, List.map_nil, neK, decide_false, decide_true, Bool.or_true, Bool.true_or, if_pos, if_neg, not_false_eq_true, if_true, if_false, sr2]
  · rw [upd_ne (Ne.symm h.ne)]; exact h.a2
  · rw [upd_ne n1]; exact h.old a n1 n2
theorem put_turn (h : At2 g1 g2 H0 H t) (i : Int) : ∃ H', DPut H g1 (.str "turn") (.int i) H' ∧ At2 g1 g2 H0 H' { t with turn := i } := by
  refine ⟨_, DPut.k (k := .inr "turn") h.a1 (by rw [sizeLine_eq]; show 4 < 16777216; decide), ?_, ?_, h.ne, fun a n1 n2 => ?_⟩
  · rw [upd_same]
    unfold putK
    simp only [List.any_cons, List.map_cons, List.map_nil, neK, decide_false, decide_true, Bool.or_true, Bool.true_or, if_pos, if_neg, not_false_eq_true, if_true, if_false, sr2]
  · rw [upd_ne (Ne.symm h.ne)]; exact h.a2
  · rw [upd_ne n1]; exact h.old a n1 n2
theorem put_cells (h : At2 g1 g2 H0 H t) (cs : List Int) : At2 g1 g2 H0 (upd H g2 (.lst (cs.map V.int))) { t with cells := cs } :=
  ⟨by rw [upd_ne h.ne]; exact h.a1, upd_same, h.ne, fun a n1 n2 => by rw [upd_ne n2]; exact h.old a n1 n2⟩

abbrev gS (k : Str) : TE := tDGet (tVar 0) (tC (.str k))
abbrev rLtI : R2 := rI0 fun i j => .bl (decide (i < j))
abbrev rGtI : R2 := rI0 fun i j => .bl (decide (j < i))
abbrev rLn (K : PySem.W.Frag) : List V → Hp → VK → Prop := fun xs H Q => ∃ x n, xs = [x] ∧ LenV K x H n ∧ Q (.int n) H
abbrev rIn1 : List V → Hp → VK → Prop := fun xs H Q => (∃ i, xs = [.int i] ∧ Q (.int i) H) ∨ ∃ k, xs = [.bl k] ∧ Q (.int (if k then 1 else 0)) H
abbrev tInt (t : TE) : TE := tCB rIn1 (tCons t tNil)
abbrev rMoN : R2 := rI (fun _ j => j ≠ 0) fun i j => .int (i.fmod j)
abbrev rFdN : R2 := rI CDivN fun i j => .int (i.fdiv j)
abbrev rAdI : R2 := rI0 fun i j => .int (i + j)
abbrev rMuI : R2 := rI CMul fun i j => .int (i * j)
def tPull (K : PySem.W.Frag) : TS := tWhile (tAnd (tTest (tOp rLtI (gS "left") (tC (.int 2)))) (tTest (tOp rGtI (tCB (rLn K) (tCons (tVar 2) tNil)) (tC (.int 0))))) (sDPut (tVar 0) (tC (.str "left")) (tBM0 K "list" rPop (tVar 2)))
def tPick2 (K : PySem.W.Frag) : TS :=
  tSeq (tIfS (tTest (tOp rLtI (tVar 1) (tC (.int 2)))) (tRet (tC (.int 0))) tNext) <|
  tSeq (tAsg (gS "cells") (gName 2)) <|
  tSeq (tPull K) <|
  tSeq (tAsg (gS "left") (gName 3)) <|
  tSeq (tIfS (tTest (tOp rGtI (tVar 3) (tC (.int 1)))) (tSeq (sDPut (tVar 0) (tC (.str "left")) (tOp rFdN (tVar 3) (tVar 1))) (tRet (tOp rMoN (tInt (tVar 3)) (tVar 1)))) tNext) <|
  tSeq (sDPut (tVar 0) (tC (.str "turn")) (tOp rAdI (gS "turn") (tC (.int 1)))) <|
  tSeq (tAsg (gS "turn") (gName 4)) <|
  tSeq (tAsg (tOp rMoN (tInt (tOp rAdI (gS "mixed") (tOp rMuI (tVar 4) (tC (.int 104729))))) (tC (.int 998244353))) (gName 5)) <|
  tSeq (tAsg (tOp rMoN (tInt (tOp rAdI (tOp rMuI (tVar 5) (tVar 5)) (tOp rMuI (tVar 4) (tC (.int 17))))) (tC (.int 2147483647))) (gName 5)) <|
  tRet (tOp rMoN (tInt (tOp rFdN (tVar 5) (tC (.int 16)))) (tVar 1))

theorem sqL_of {g : Addr} {vs : List V} (h : H g = some (.lst vs)) : SqL K H g vs := .inl (.inl h)
theorem pull_run {D : Ends} {σ : L2.St} (s0 : σ[0]? = some (some (.ref g1))) (s2 : σ[2]? = some (some (.ref g2))) (h : At2 g1 g2 H0 H t) (q : ∀ H', At2 g1 g2 H0 H' (stir t) → D.nx σ H') : tPull K D σ H := by
  refine ⟨fun m σ' H' => σ' = σ ∧ ∃ t', At2 g1 g2 H0 H' t' ∧ t'.cells.length = m ∧ { t' with cells := (pull m t'.cells t'.left).1, left := (pull m t'.cells t'.left).2 } = stir t, ⟨t.cells.length, rfl, t, h, rfl, rfl⟩, ?_⟩
  rintro m σ' H1 ⟨eσ, t1, h1, rfl, e⟩
  subst σ'
  refine ⟨_, s0, g1, .int t1.left, rfl, get_left h1, t1.left, 2, rfl, rfl, _, rfl, ?_⟩
  have fin : ∀ (z : pull t1.cells.length t1.cells t1.left = (t1.cells, t1.left)), D.nx σ H1 := fun z => by
    rw [z] at e
    exact q H1 (by rw [← e]; exact h1)
  by_cases c : t1.left < 2
  · refine ift (decide_eq_true c) ?_
    refine ⟨_, s2, _, t1.cells.length, rfl, .inl ⟨t1.cells.map V.int, sqL_of h1.a2, (List.length_map ..).symm⟩, ((t1.cells.length : Nat) : Int), 0, rfl, rfl, _, rfl, ?_⟩
    by_cases c2 : (0 : Int) < (t1.cells.length : Nat)
    · refine ift (decide_eq_true c2) ?_
      refine ⟨fun σ2 H2 => σ2 = σ ∧ ∃ t', At2 g1 g2 H0 H2 t' ∧ t'.cells.length = t1.cells.length - 1 ∧ { t' with cells := (pull (t1.cells.length - 1) t'.cells t'.left).1, left := (pull (t1.cells.length - 1) t'.cells t'.left).2 } = stir t, fun σ2 H2 ⟨a, t2, b, d, f⟩ => ⟨t1.cells.length - 1, by omega, a, t2, b, d, f⟩, ?_⟩
      have hne : t1.cells ≠ [] := fun z => by rw [z] at c2; exact absurd c2 (by decide)
      have el : (t1.cells.map V.int)[(t1.cells.map V.int).length - 1]? = some (.int (t1.cells.getLastD 0)) := by
        rw [List.length_map, List.getElem?_map, ← List.getLast?_eq_getElem?, List.getLastD_eq_getLast?, List.getLast?_eq_some_getLast hne]
        rfl
      obtain ⟨H3, p3, h3⟩ := put_left (put_cells h1 t1.cells.dropLast) (t1.cells.getLastD 0)
      refine ⟨_, s2, .inl ⟨rfl, _, sqL_of h1.a2⟩, g2, _, _, rfl, rfl, h1.a2, el, _, s0, g1, H3, rfl, ?_, ?_⟩
      · rw [← List.map_dropLast]; exact p3
      · refine ⟨rfl, _, h3, by rw [List.length_dropLast], ?_⟩
        obtain ⟨n, hn⟩ : ∃ n, t1.cells.length = n + 1 := ⟨t1.cells.length - 1, by omega⟩
        rw [hn] at e ⊢
        unfold pull at e
        rw [if_pos c] at e
        exact e
    · refine ifF (fun z => c2 (of_decide_eq_true z)) ?_
      refine fin ?_
      rw [show t1.cells.length = 0 by omega]
      rfl
  · refine ifF (fun z => c (of_decide_eq_true z)) ?_
    refine fin ?_
    cases t1.cells.length with
    | zero => rfl
    | succ n => unfold pull; rw [if_neg c]

theorem pick2_run {m : Int} {Q : VK} (hs : HS (sr2 g1 g2) H I t) (hm : m < 1073741824) (p : Post (sr2 g1 g2) K H I (pick2 t m).2 (.v (.int (pick2 t m).1)) Q) :
    tPick2 K { nx := fun _ H' => Q .non H', rt := Q } (start ["source", "most", "cells", "others", "lap", "stirred"] [.ref g1, .int m]) H := by
  have h : At2 g1 g2 H H t := ⟨hs.a1, hs.a2, hs.apart, fun _ _ _ => rfl⟩
  have fin : ∀ {H' t' r}, At2 g1 g2 H H' t' → pick2 t m = (r, t') → Q (.int r) H' := fun h' e => by
    rw [e] at p
    exact p _ _ _ (h'.fin hs).1 (h'.fin hs).2 (.int _)
  refine ⟨.int m, rfl, m, 2, rfl, rfl, _, rfl, ?_⟩
  by_cases c : m < 2
  · refine ift (decide_eq_true c) ?_
    exact fin h (by unfold pick2; rw [if_pos c])
  refine ifF (fun z => c (of_decide_eq_true z)) ?_
  refine ⟨.ref g1, rfl, g1, _, rfl, get_cells h, ?_⟩
  refine pull_run rfl rfl h fun H1 h1 => ?_
  refine ⟨.ref g1, rfl, g1, _, rfl, get_left h1, ?_⟩
  refine ⟨.int (stir t).left, rfl, (stir t).left, 1, rfl, rfl, _, rfl, ?_⟩
  by_cases c1 : 1 < (stir t).left
  · refine ift (decide_eq_true c1) ?_
    obtain ⟨H2, p2, h2⟩ := put_left h1 ((stir t).left.fdiv m)
    refine ⟨.int (stir t).left, rfl, .int m, rfl, _, _, rfl, rfl, ⟨by omega, by omega⟩, .ref g1, rfl, g1, H2, rfl, p2, ?_⟩
    refine ⟨.int (stir t).left, rfl, .inl ⟨_, rfl, .int m, rfl, _, _, rfl, rfl, by omega, ?_⟩⟩
    exact fin h2 (by unfold pick2; rw [if_neg c, if_pos c1])
  · refine ifF (fun z => c1 (of_decide_eq_true z)) ?_
    obtain ⟨H2, p2, h2⟩ := put_turn h1 ((stir t).turn + 1)
    refine ⟨.ref g1, rfl, g1, _, rfl, get_turn h1, _, _, rfl, rfl, .ref g1, rfl, g1, H2, rfl, p2, ?_⟩
    refine ⟨.ref g1, rfl, g1, _, rfl, get_turn h2, ?_⟩
    refine ⟨.ref g1, rfl, g1, _, rfl, get_mixed h2, .int ((stir t).turn + 1), rfl, _, _, rfl, rfl, .inr ⟨by decide, by decide⟩, _, _, rfl, rfl, .inl ⟨_, rfl, _, _, rfl, rfl, (by decide : (_ : Int) ≠ 0), ?_⟩⟩
    have hb : 0 ≤ mixA (stir t) ∧ mixA (stir t) < 998244353 := ⟨Int.fmod_nonneg_of_pos _ (by decide), Int.fmod_lt_of_pos _ (by decide)⟩
    have hc : 0 ≤ mixB (stir t) ∧ mixB (stir t) < 2147483647 := ⟨Int.fmod_nonneg_of_pos _ (by decide), Int.fmod_lt_of_pos _ (by decide)⟩
    refine ⟨.int (mixA (stir t)), rfl, .int (mixA (stir t)), rfl, _, _, rfl, rfl, .inl ⟨by omega, by omega⟩, .int ((stir t).turn + 1), rfl, _, _, rfl, rfl, .inr ⟨by decide, by decide⟩, _, _, rfl, rfl, .inl ⟨_, rfl, _, _, rfl, rfl, (by decide : (_ : Int) ≠ 0), ?_⟩⟩
    refine ⟨.int (mixB (stir t)), rfl, _, _, rfl, rfl, ⟨by decide, by decide⟩, .inl ⟨_, rfl, .int m, rfl, _, _, rfl, rfl, by omega, ?_⟩⟩
    exact fin h2 (by unfold pick2; rw [if_neg c, if_neg c1])

/-! ### the opening of the cells -/
abbrev rAb : List V → Hp → VK → Prop := fun xs H Q => ∃ i, xs = [.int i] ∧ Q (.int (if i < 0 then -i else i)) H
def tInit2 (K : PySem.W.Frag) : TS :=
  tSeq (tAsg (tC (.int 11)) (gName 1)) <|
  tSeq (tFor (iList K (tVar 0)) (gName 2) (tAsg (tOp rMoN (tInt (tOp rAdI (tOp rAdI (tOp rMuI (tVar 1) (tC (.int 69069))) (tOp rMuI (tVar 2) (tC (.int 31)))) (tC (.int 5)))) (tC (.int 2147483629))) (gName 1))) <|
  tSeq (tAsg (tLc (iList K (tVar 0)) (gName 2) tYes (tCB rAb (tCons (tVar 2) tNil)) [2]) (gName 3)) <|
  tRet (tDisp [(tC (.str "cells"), tRevL K (tVar 3)), (tC (.str "left"), tC (.int 1)), (tC (.str "mixed"), tVar 1), (tC (.str "turn"), tC (.int 0))])
def spI {τ : Type} (mk : Addr → Addr → Sr τ) (K : PySem.W.Frag) : Sp := fun vs H Q _ => ∃ (l : Addr) (ns : List Int), vs = [.ref l] ∧ SqL K H l (ns.map V.int) ∧ ns.length ≤ 63 ∧
  ∀ g1 g2 H' t, H' g1 = some ((mk g1 g2).A t) → H' g2 = some ((mk g1 g2).B t) → H g1 = none → H g2 = none → Le H H' → Q (.ref g1) H'
theorem sqL_le (l : Le H H') {a : Addr} {vs : List V} (h : SqL K H a vs) : SqL K H' a vs := by
  rcases h with (h | ⟨o, h⟩) | h
  · exact .inl (.inl (l _ _ h))
  · exact .inl (.inr ⟨o, l _ _ h⟩)
  · exact .inr h
theorem init2_run {vs : List V} {Q : VK} {E : XK} (h : spI sr2 K vs H Q E) : tInit2 K { nx := fun _ H' => Q .non H', rt := Q } (start ["script", "stirred", "cell", "cells"] vs) H := by
  obtain ⟨l, ns, rfl, hl, h63, q⟩ := h
  refine ⟨.ref l, rfl, l, rfl, ⟨_, hl⟩, ?_⟩
  refine ⟨fun i m σ H1 => H1 = H ∧ i ≤ ns.length ∧ m = ns.length - i ∧ ∃ z c, σ = [some (.ref l), some (.int z), c, none] ∧ 0 ≤ z ∧ z < 2147483629, ⟨ns.length, rfl, Nat.zero_le _, rfl, 11, none, rfl, by decide, by decide⟩, ?_⟩
  rintro i m σ H1 ⟨e1, hi, rfl, z, c, rfl, z1, z2⟩
  subst H1
  by_cases lt : i < ns.length
  · have hx : (ns.map V.int)[i]? = some (.int ns[i]) := by rw [List.getElem?_map, List.getElem?_eq_getElem lt]; rfl
    refine .inr ⟨⟨_, _, hl, hx⟩, fun σ' H' => H' = H ∧ i + 1 ≤ ns.length ∧ ∃ z c, σ' = [some (.ref l), some (.int z), c, none] ∧ 0 ≤ z ∧ z < 2147483629, fun σ' H' ⟨a, b, d⟩ => ⟨ns.length - (i + 1), by omega, a, b, rfl, d⟩, ?_⟩
    rintro x H' ⟨rfl, hy⟩
    have ex := hy _ hl
    rw [hx] at ex
    cases ex
    refine ⟨.int z, rfl, z, 69069, rfl, rfl, .inr ⟨by decide, by decide⟩, .int ns[i], rfl, _, _, rfl, rfl, .inr ⟨by decide, by decide⟩, _, _, rfl, rfl, _, _, rfl, rfl, .inl ⟨_, rfl, _, _, rfl, rfl, (by decide : (_ : Int) ≠ 0), ?_⟩⟩
    exact ⟨rfl, lt, _, _, rfl, Int.fmod_nonneg_of_pos _ (by decide), Int.fmod_lt_of_pos _ (by decide)⟩
  refine .inl ⟨⟨_, hl, by rw [List.length_map]; omega⟩, ?_⟩
  refine ⟨.ref l, rfl, l, rfl, ⟨_, hl⟩, fun D nD => ?_⟩
  refine ⟨fun i m H1 => i ≤ ns.length ∧ m = ns.length - i ∧ ∃ acc : List Int, H1 = upd H D (.lst (acc.map V.int)) ∧ acc.length = i, ⟨ns.length, Nat.zero_le _, rfl, [], rfl, rfl⟩, ?_⟩
  rintro i m H1 ⟨hi, rfl, acc, rfl, ha⟩
  have hl1 : SqL K (upd H D (.lst (acc.map V.int))) l (ns.map V.int) := sqL_le (.upd nD) hl
  by_cases lt : i < ns.length
  · have hx : (ns.map V.int)[i]? = some (.int ns[i]) := by rw [List.getElem?_map, List.getElem?_eq_getElem lt]; rfl
    refine .inr ⟨⟨_, _, hl1, hx⟩, fun H' => i + 1 ≤ ns.length ∧ ∃ acc : List Int, H' = upd H D (.lst (acc.map V.int)) ∧ acc.length = i + 1, fun H' ⟨b, d⟩ => ⟨ns.length - (i + 1), by omega, b, rfl, d⟩, ?_⟩
    rintro x H' ⟨rfl, hy⟩
    have ex := hy _ hl1
    rw [hx] at ex
    cases ex
    refine ⟨rfl, ?_⟩
    unfold tYes
    simp only [if_true]
    refine ⟨.int ns[i], rfl, ns[i], rfl, _, upd_same, by rw [List.length_map, sizeLine_eq]; omega, lt, acc ++ [if ns[i] < 0 then -ns[i] else ns[i]], ?_, by rw [List.length_append, ha]; rfl⟩
    rw [upd_upd, List.map_append]
    rfl
  refine .inl ⟨⟨_, hl1, by rw [List.length_map]; omega⟩, ?_⟩
  intro p np
  have pD : p ≠ D := fun e => by subst e; rw [upd_same] at np; cases np
  have hp : H p = none := by rw [upd_ne pD] at np; exact np
  refine ⟨.ref D, rfl, D, acc.map V.int, rfl, sqL_of (by rw [upd_ne (Ne.symm pD), upd_same]), fun g ng => ?_⟩
  have gp : g ≠ p := fun e => by subst e; rw [upd_same] at ng; cases ng
  have gD : g ≠ D := fun e => by subst e; rw [upd_ne (Ne.symm pD), upd_same] at ng; cases ng
  have hg : H g = none := by rw [upd_ne gp, upd_ne gD] at ng; exact ng
  refine ⟨.int z, rfl, by rw [upd_ne (Ne.symm gp), upd_same], [(.inr "cells", .ref g), (.inr "left", .int 1), (.inr "mixed", .int z), (.inr "turn", .int 0)], rfl, by show 4 ≤ 15; decide, ?_⟩
  refine q p g _ ⟨acc.reverse, 1, z, 0⟩ ?_ ?_ hp hg ?_
  · rw [upd_same]
    simp [mergeK, putK, neS, sr2]
  · rw [upd_ne gp, upd_same, ← List.map_reverse]
    rfl
  · intro a o e
    have n1 : a ≠ p := fun e' => by subst e'; rw [hp] at e; cases e
    have n2 : a ≠ g := fun e' => by subst e'; rw [hg] at e; cases e
    have n3 : a ≠ D := fun e' => by subst e'; rw [nD] at e; cases e
    rw [upd_ne n1, upd_ne n2, upd_ne n1, upd_ne n3]
    exact e
end

/-! ### the law -/
def spLaw (K : PySem.W.Frag) : Sp := fun vs H Q _ => ∃ (l : Addr) (ns : List Int), vs = [.ref l] ∧ SqL K H l (ns.map V.int) ∧ ns.length ≤ 63 ∧ ∀ H', Q (.bl true) H'
section
variable {τ : Type} {mk : Addr → Addr → Sr τ} {O : Pk τ} {W : Nat} {T : Nat → Option Str} {prog : Nat → Option Fn} {P : Program} {w : World} {K : PySem.W.Frag} {mg : Str → Option Value} {base : Heap}
theorem ok_law {f fI : Addr} {fd fdI : FuncData} {x : Str} {st : Stmt} {N : List Str} {k : Nat} {nI : Str} {p1 p2 p3 p4 p5 : Pos} {rest : List Stmt} {S : S} (F : Fun K x x st f fd) (sc : FnScope N ["script"] (defScope st))
    (hb : defBody st = .Assign [.Name "source" p1] (.Call (.Name nI p2) [.Name "script" p3] [] p4) p5 :: rest) (h0 : N[0]? = some ("script" : Str)) (h1 : N[1]? = some ("source" : Str)) (v0 : Vis (defScope st) "script") (v1 : Loc (defScope st) "source") (gI : (defScope st).names.lookup nI = some .globalImplicit) (dI : (nI == ("__debug__" : Str)) = false)
    (FI : FnG P w K mg base 1 fI fdI ["script"] (spI mk K)) (mI : mg nI = some (.ref fI)) (kI : PySem.W.keepIn K (.ref fI) = true) (bI : Binds K fdI ["script"] [])
    (hmk : ∀ g1 g2, (mk g1 g2).g1 = g1 ∧ (mk g1 g2).g2 = g2) (pk : ∀ g1 g2, PickOk (mk g1 g2) O P w K mg base) (po : ProgOk T prog K mg) (hc : chkS T N (defScope st) S rest = true)
    (hrun : ∀ t, ∃ ρ' t', exec O (run O W prog k) W S (none :: some (.v .src) :: List.replicate (N.length - 2) none) t = some (.rt (.v (.bl true)), ρ', t')) :
    FnG P w K mg base (k + 2) f fd ["script"] (spLaw K) := by
  refine okG F sc (fun vs H Q E h => ?_) fun cdv A outer s H vs Q E hg hr h => ?_
  · obtain ⟨l, ns, rfl, _⟩ := h
    rfl
  · obtain ⟨l, ns, rfl, hl, h63, hq⟩ := h
    rw [hb]
    have hr1 : Room 1 (A.deeper (envOfC x (defScope st) s.heap.objs.size f cdv)) := hr.mono (by omega)
    refine wS.of (pss_cons (ps_set (i := 1) sc.nd h1 v1 (pe_callG FI hg hr1 gI mI kI bI (pa_cons (pe_var (i := 0) h0 v0) pa_nil) dI rfl rfl) rfl (.inl rfl)) (pss_w rest)) ?_
    refine ⟨.ref l, ?_, l, ns, rfl, hl, h63, fun g1 g2 H' t e1 e2 n1 n2 le => ?_⟩
    · cases N with
      | nil => cases h0
      | cons a N => rfl
    obtain ⟨m1, m2⟩ := hmk g1 g2
    have hs : HS (mk g1 g2) H' (fun _ => none) t := ⟨(fun a o e => nomatch e), rfl, rfl, (by rw [m1]; exact e1), (by rw [m2]; exact e2)⟩
    obtain ⟨ρ', t', hx⟩ := hrun t
    have g : GS (mk g1 g2) O (run O W prog k) T (k + 1) (cxOf CX0 P w K mg base N x (defScope st) f cdv A outer s H E).nox :=
      { calm := rfl, gd := hg, rm := hr, nd := sc.nd, xe := rfl, tab := tabs po (pk g1 g2) k, fk := sc.kind, fn := fun _ => rfl }
    have hN : 2 ≤ N.length := (List.getElem?_eq_some_iff.mp h1).1
    have stt : L2.start N [V.ref l] = some (V.ref l) :: List.replicate (N.length - 1) none := by
      unfold L2.start; rfl
    have look : ∀ {i : Nat} {r : R}, (none :: some (.v .src) :: List.replicate (N.length - 2) (none : Option R))[i]? = some (some r) → i = 1 ∧ r = .v .src := fun {i r} e => by
      match i, e with
      | 0, e => cases e
      | 1, e => cases e; exact ⟨rfl, rfl⟩
      | i + 2, e =>
        exfalso
        simp only [List.getElem?_cons_succ, List.getElem?_replicate] at e
        split at e <;> cases e
    have str : SR (mk g1 g2) K H' (none :: some (.v .src) :: List.replicate (N.length - 2) none) ((L2.start N [V.ref l]).set 1 (some (.ref g1))) H' fun _ => none := by
      refine ⟨?_, fun i d e => ?_, fun i d e => ?_, fun i j d e a m hij q _ _ _ => ?_⟩
      · rw [List.length_set, stt]; simp; omega
      · obtain ⟨rfl, z⟩ := look e
        cases z
        refine ⟨.ref g1, ?_, by have z : Rep K (mk g1 g2).g1 (fun _ => none) (.ref (mk g1 g2).g1) .src := .src; rw [m1] at z ⊢; exact z⟩
        rw [List.getElem?_set_self]
        rw [stt]; simp; omega
      · obtain ⟨_, z⟩ := look e; cases z
      · obtain ⟨_, z⟩ := look q; cases z
    exact snds S g hx ⟨hs, .refl _ _ _, str⟩ hc fun v H2 I2 _ _ rr => by
      have rr : Rep K (mk g1 g2).g1 I2 v (.bl true) := rr
      cases rr
      exact hq H2
end
end PyI

set_option Elab.async false
set_option linter.all false
set_option maxRecDepth 100000
set_option maxHeartbeats 4000000
/-! PyI: what a term runs to, read off step by step (no program in sight). -/
namespace PyI
open PySem

def okK {α : Type} (x : Option α) (k : α → Prop) : Prop := ∃ a, x = some a ∧ k a
def K2 {α β : Type} (x : Option (α × β)) (k : α → β → Prop) : Prop := ∃ a b, x = some (a, b) ∧ k a b
def K3 {α β γ : Type} (x : Option (α × β × γ)) (k : α → β → γ → Prop) : Prop := ∃ a b c, x = some (a, b, c) ∧ k a b c
def trK (x : Option Bool) (p q : Prop) : Prop := (x = some true ∧ p) ∨ (x = some false ∧ q)
section
variable {α β γ δ : Type}
theorem okK_some {a : α} {k : α → Prop} : okK (some a) k ↔ k a := by simp [okK]
theorem okK_none {k : α → Prop} : okK (none : Option α) k ↔ False := by simp [okK]
theorem okK_ite {c : Prop} [Decidable c] {a : α} {k : α → Prop} : okK (if c then some a else none) k ↔ c ∧ k a := by by_cases h : c <;> simp [okK, h]
theorem okK_map {x : Option α} {f : α → β} {k : β → Prop} : okK (x.map f) k ↔ okK x fun a => k (f a) := by cases x <;> simp [okK]
theorem okK_bind {x : Option α} {f : α → Option β} {k : β → Prop} : okK (x.bind f) k ↔ okK x fun a => okK (f a) k := by cases x <;> simp [okK]
theorem K2_some {a : α} {b : β} {k : α → β → Prop} : K2 (some (a, b)) k ↔ k a b := by
  constructor
  · rintro ⟨_, _, h, q⟩; cases h; exact q
  · intro q; exact ⟨a, b, rfl, q⟩
theorem K2_none {k : α → β → Prop} : K2 (none : Option (α × β)) k ↔ False := by simp [K2]
theorem K2_ite {c : Prop} [Decidable c] {x y : Option (α × β)} {k : α → β → Prop} : K2 (if c then x else y) k ↔ if c then K2 x k else K2 y k := by by_cases h : c <;> simp [h]
theorem K3_some {a : α} {b : β} {c : γ} {k : α → β → γ → Prop} : K3 (some (a, b, c)) k ↔ k a b c := by
  constructor
  · rintro ⟨_, _, _, h, q⟩; cases h; exact q
  · intro q; exact ⟨a, b, c, rfl, q⟩
theorem K3_none {k : α → β → γ → Prop} : K3 (none : Option (α × β × γ)) k ↔ False := by simp [K3]
theorem trK_t {p q : Prop} : trK (some true) p q ↔ p := by simp [trK]
theorem trK_f {p q : Prop} : trK (some false) p q ↔ q := by simp [trK]
theorem trK_b {b : Bool} {p q : Prop} : trK (some b) p q ↔ (b = true → p) ∧ (b = false → q) := by cases b <;> simp [trK]
theorem trK_map {b : Option Bool} {p q : Prop} : trK (b.map (!·)) p q ↔ trK b q p := by
  cases b with
  | none => simp [trK]
  | some b => cases b <;> simp [trK]
theorem mapK {x : Option α} {f : α → β × γ} {k : β → γ → Prop} : K2 (x.map f) k ↔ okK x fun a => k (f a).1 (f a).2 := by
  cases x with
  | none => simp [K2, okK]
  | some a => rw [okK_some]; exact K2_some
theorem mapK3 {x : Option α} {f : α → β × γ × δ} {k : β → γ → δ → Prop} : K3 (x.map f) k ↔ okK x fun a => k (f a).1 (f a).2.1 (f a).2.2 := by
  cases x with
  | none => simp [K3, okK]
  | some a => rw [okK_some]; exact K3_some
end
section
variable {τ : Type} {O : Pk τ} {F : Fs τ} {W : Nat} {ρ : Rho} {t : τ}
theorem bdK {x : Option (R × τ)} {β γ : Type} {f : R → τ → Option (β × γ)} {k : β → γ → Prop} : K2 (bd x f) k ↔ K2 x fun r t1 => K2 (f r t1) k := by
  cases x with
  | none => simp [K2, bd]
  | some p => obtain ⟨r, t1⟩ := p; rw [K2_some]; rfl
theorem bdK3 {x : Option (R × τ)} {β γ δ : Type} {f : R → τ → Option (β × γ × δ)} {k : β → γ → δ → Prop} : K3 (bd x f) k ↔ K2 x fun r t1 => K3 (f r t1) k := by
  cases x with
  | none => simp [K2, K3, bd]
  | some p => obtain ⟨r, t1⟩ := p; rw [K2_some]; rfl
abbrev evK (O : Pk τ) (F : Fs τ) (e : C) (ρ : Rho) (t : τ) (k : R → τ → Prop) : Prop := K2 (ev O F e ρ t) k
abbrev exK (O : Pk τ) (F : Fs τ) (W : Nat) (s : S) (ρ : Rho) (t : τ) (k : Out → Rho → τ → Prop) : Prop := K3 (exec O F W s ρ t) k
variable {k : R → τ → Prop} {kk : Out → Rho → τ → Prop} {a b c : C}
theorem K2_congr {α β : Type} {x : Option (α × β)} {k k' : α → β → Prop} (h : ∀ a b, k a b ↔ k' a b) : K2 x k ↔ K2 x k' := by
  have : k = k' := by funext a b; exact propext (h a b)
  rw [this]
theorem K3_congr {α β γ : Type} {x : Option (α × β × γ)} {k k' : α → β → γ → Prop} (h : ∀ a b c, k a b c ↔ k' a b c) : K3 x k ↔ K3 x k' := by
  have : k = k' := by funext a b c; exact propext (h a b c)
  rw [this]
/-! what a name holds -/
def varK (x : Option (Option R)) (t : τ) (k : R → τ → Prop) : Prop := match x with
  | some (some (.v d)) => k (.v d) t
  | some (some (.o d)) => k (.k d) t
  | _ => False
theorem v_v {d : D} : varK (some (some (.v d))) t k ↔ k (.v d) t := Iff.rfl
theorem v_o {d : D} : varK (some (some (.o d))) t k ↔ k (.k d) t := Iff.rfl
theorem e_var {i : Nat} : evK O F (.var i) ρ t k ↔ varK ρ[i]? t k := by
  show K2 (match ρ[i]? with | some (some (.v d)) => some (.v d, t) | some (some (.o d)) => some (.k d, t) | _ => none) k ↔ _
  cases ρ[i]? with
  | none => simp [varK, K2]
  | some x => cases x with
    | none => simp [varK, K2]
    | some r => cases r <;> simp [varK, K2_some, K2_none]
theorem e_non : evK O F .non ρ t k ↔ k (.v .non) t := K2_some
theorem e_bl {b : Bool} : evK O F (.bl b) ρ t k ↔ k (.v (.bl b)) t := K2_some
theorem e_int {i : Int} : evK O F (.int i) ρ t k ↔ k (.v (.int i)) t := K2_some
theorem e_str {x : Str} : evK O F (.str x) ρ t k ↔ k (.v (.str x)) t := K2_some
theorem e_nil : evK O F .nil ρ t k ↔ k (.v (.lst [])) t := K2_some
theorem e_dnil : evK O F .dnil ρ t k ↔ k (.o (.dct [] [])) t := K2_some
def conK (x : Option D) (y : D) (t : τ) (k : R → τ → Prop) : Prop := match x, y with
  | some x, .lst xs => k (.v (.lst (x :: xs))) t
  | _, _ => False
theorem con_ {x : D} {xs : List D} : conK (some x) (.lst xs) t k ↔ k (.v (.lst (x :: xs))) t := Iff.rfl
theorem e_cons : evK O F (.cons a b) ρ t k ↔ evK O F a ρ t fun ra t1 => evK O F b ρ t1 fun rb t2 => conK ra.st rb.d t2 k := by
  refine bdK.trans (K2_congr fun ra t1 => bdK.trans (K2_congr fun rb t2 => ?_))
  cases ra.st with
  | none => exact K2_none
  | some x => cases rb.d <;> simp [conK, K2_some, K2_none]
def lsK (y : D) (k : List D → Prop) : Prop := match y with
  | .lst xs => k xs
  | _ => False
theorem ls_ {xs : List D} {k : List D → Prop} : lsK (.lst xs) k ↔ k xs := Iff.rfl
theorem e_tup : evK O F (.tup a) ρ t k ↔ evK O F a ρ t fun ra t1 => lsK ra.d fun xs => xs.length ≤ sizeLine ∧ k (.v (.tup xs)) t1 := by
  refine bdK.trans (K2_congr fun ra t1 => ?_)
  cases ra.d <;> simp [lsK, K2_none]
  rename_i xs
  by_cases h : xs.length ≤ sizeLine <;> simp [h, K2_some, K2_none]
theorem e_lst : evK O F (.lst a) ρ t k ↔ evK O F a ρ t fun ra t1 => lsK ra.d fun xs => xs.length ≤ sizeLine ∧ k (.o (.lst xs)) t1 := by
  refine bdK.trans (K2_congr fun ra t1 => ?_)
  cases ra.d <;> simp [lsK, K2_none]
  rename_i xs
  by_cases h : xs.length ≤ sizeLine <;> simp [h, K2_some, K2_none]
theorem e_bin {op : BOp} : evK O F (.bin op a b) ρ t k ↔ evK O F a ρ t fun ra t1 => evK O F b ρ t1 fun rb t2 => okK (binD op ra.d rb.d) fun r => k r t2 :=
  bdK.trans (K2_congr fun ra t1 => bdK.trans (K2_congr fun rb t2 => mapK))
def intK (y : D) (k : Int → Prop) : Prop := match y with
  | .int i => k i
  | _ => False
theorem int_ {i : Int} {k : Int → Prop} : intK (.int i) k ↔ k i := Iff.rfl
theorem e_neg : evK O F (.neg a) ρ t k ↔ evK O F a ρ t fun ra t1 => intK ra.d fun i => k (.v (.int (-i))) t1 := by
  refine bdK.trans (K2_congr fun ra t1 => ?_)
  cases ra.d <;> simp [intK, K2_none, K2_some]
theorem e_nt : evK O F (.nt a) ρ t k ↔ evK O F a ρ t fun ra t1 => okK (truth ra.d) fun b => k (.v (.bl (!b))) t1 :=
  bdK.trans (K2_congr fun ra t1 => mapK)
theorem tr_split {x : Option Bool} {y z : Option (R × τ)} : K2 (match x with | some true => y | some false => z | none => none) k ↔ trK x (K2 y k) (K2 z k) := by
  cases x with
  | none => simp [trK, K2]
  | some b => cases b <;> simp [trK]
theorem e_and : evK O F (.and_ a b) ρ t k ↔ evK O F a ρ t fun ra t1 => trK (truth ra.d) (evK O F b ρ t1 k) (okK ra.st fun d => k (.v d) t1) := by
  refine bdK.trans (K2_congr fun ra t1 => ?_)
  cases truth ra.d with
  | none => simp [trK, K2]
  | some b => cases b <;> simp [trK, mapK]
theorem e_or : evK O F (.or_ a b) ρ t k ↔ evK O F a ρ t fun ra t1 => trK (truth ra.d) (okK ra.st fun d => k (.v d) t1) (evK O F b ρ t1 k) := by
  refine bdK.trans (K2_congr fun ra t1 => ?_)
  cases truth ra.d with
  | none => simp [trK, K2]
  | some b => cases b <;> simp [trK, mapK]
theorem e_ife : evK O F (.ife c a b) ρ t k ↔ evK O F c ρ t fun rc t1 => trK (truth rc.d) (evK O F a ρ t1 k) (evK O F b ρ t1 k) := by
  refine bdK.trans (K2_congr fun ra t1 => ?_)
  cases truth ra.d with
  | none => simp [trK, K2]
  | some b => cases b <;> simp [trK]
theorem e_cmp {op : COp} : evK O F (.cmp op a b) ρ t k ↔ evK O F a ρ t fun ra t1 => evK O F b ρ t1 fun rb t2 => okK (cmpD op ra.d rb.d) fun c => k (.v (.bl c)) t2 :=
  bdK.trans (K2_congr fun ra t1 => bdK.trans (K2_congr fun rb t2 => mapK))
theorem e_isc {no : Bool} {c : Option Bool} : evK O F (.isc no a c) ρ t k ↔ evK O F a ρ t fun ra t1 => okK (iscD c ra.d) fun b => k (.v (.bl (b != no))) t1 :=
  bdK.trans (K2_congr fun ra t1 => mapK)
theorem e_call {f : Nat} : evK O F (.call f a) ρ t k ↔ evK O F a ρ t fun ra t1 => lsK ra.d fun ds => K2 (F f ds t1) k := by
  refine bdK.trans (K2_congr fun ra t1 => ?_)
  cases ra.d <;> simp [lsK, K2_none]
def pickK (O : Pk τ) (x y : D) (t : τ) (k : R → τ → Prop) : Prop := match x, y with
  | .src, .int i => i < 1073741824 ∧ k (.v (.int (O t i).1)) (O t i).2
  | _, _ => False
theorem pick_ {i : Int} : pickK O .src (.int i) t k ↔ i < 1073741824 ∧ k (.v (.int (O t i).1)) (O t i).2 := Iff.rfl
theorem e_pick : evK O F (.pick a b) ρ t k ↔ evK O F a ρ t fun ra t1 => evK O F b ρ t1 fun rb t2 => pickK O ra.d rb.d t2 k := by
  refine bdK.trans (K2_congr fun ra t1 => bdK.trans (K2_congr fun rb t2 => ?_))
  cases ra.d <;> cases rb.d <;> simp [pickK, K2_none]
  rename_i i
  by_cases h : i < 1073741824 <;> simp [h, K2_some, K2_none]
theorem e_b1 {f : B1} : evK O F (.b1 f a) ρ t k ↔ evK O F a ρ t fun ra t1 => okK (b1D f ra.d) fun r => k r t1 :=
  bdK.trans (K2_congr fun ra t1 => mapK)
theorem e_b2 {f : B2} : evK O F (.b2 f a b) ρ t k ↔ evK O F a ρ t fun ra t1 => evK O F b ρ t1 fun rb t2 => okK (b2D f ra.d rb.d) fun r => k r t2 :=
  bdK.trans (K2_congr fun ra t1 => bdK.trans (K2_congr fun rb t2 => mapK))
theorem e_isin {ty : Ty} : evK O F (.isin a ty) ρ t k ↔ evK O F a ρ t fun ra t1 => okK (isinD ty ra.d) fun b => k (.v (.bl b)) t1 :=
  bdK.trans (K2_congr fun ra t1 => mapK)
theorem e_ix : evK O F (.ix a b) ρ t k ↔ evK O F a ρ t fun ra t1 => evK O F b ρ t1 fun rb t2 => okK (ixD ra.d rb.d) fun d => k (.v d) t2 :=
  bdK.trans (K2_congr fun ra t1 => bdK.trans (K2_congr fun rb t2 => mapK))
theorem e_slc : evK O F (.slc a b c) ρ t k ↔ evK O F a ρ t fun ra t1 => evK O F b ρ t1 fun rb t2 => evK O F c ρ t2 fun rc t3 => okK (partD rb.d) fun lo => okK (partD rc.d) fun hi => okK (slcD ra.d lo hi) fun r => k r t3 := by
  refine bdK.trans (K2_congr fun ra t1 => bdK.trans (K2_congr fun rb t2 => bdK.trans (K2_congr fun rc t3 => ?_)))
  cases partD rb.d with
  | none => simp [okK, K2]
  | some l => cases partD rc.d with
    | none => simp [okK, K2]
    | some h => rw [okK_some, okK_some]; exact mapK
theorem e_rng1 : evK O F (.rng1 a) ρ t k ↔ evK O F a ρ t fun ra t1 => intK ra.d fun j => (-(2 ^ 62) ≤ j ∧ j < 2 ^ 62) ∧ k (.v (.lst (rangeD 0 j.toNat))) t1 := by
  refine bdK.trans (K2_congr fun ra t1 => ?_)
  cases ra.d <;> simp only [intK, K2_none]
  rename_i i
  by_cases h : -(2 ^ 62) ≤ i ∧ i < 2 ^ 62 <;> simp only [h, K2_some, K2_none, if_true, if_false, true_and, false_and, and_self, and_true, and_false]
theorem e_rng2 : evK O F (.rng2 a b) ρ t k ↔ evK O F a ρ t fun ra t1 => evK O F b ρ t1 fun rb t2 => intK ra.d fun i => intK rb.d fun j => ((-(2 ^ 62) ≤ i ∧ i < 2 ^ 62) ∧ -(2 ^ 62) ≤ j ∧ j < 2 ^ 62) ∧ k (.v (.lst (rangeD i (j - i).toNat))) t2 := by
  refine bdK.trans (K2_congr fun ra t1 => bdK.trans (K2_congr fun rb t2 => ?_))
  cases ra.d <;> simp only [intK, K2_none]
  rename_i i
  cases rb.d <;> simp only [intK, K2_none]
  rename_i j
  by_cases h : (-(2 ^ 62) ≤ i ∧ i < 2 ^ 62) ∧ -(2 ^ 62) ≤ j ∧ j < 2 ^ 62 <;> simp only [h, K2_some, K2_none, if_true, if_false, true_and, false_and, and_self, and_true, and_false]
theorem e_enm : evK O F (.enm a) ρ t k ↔ evK O F a ρ t fun ra t1 => okK (ra.st.bind items) fun xs => k (.v (.lst (enumD 0 xs))) t1 :=
  bdK.trans (K2_congr fun ra t1 => mapK)
def zpK (x y : Option D) (t : τ) (k : R → τ → Prop) : Prop := match x, y with
  | some (.lst xs), some (.lst ys) => k (.v (.lst (pairs xs ys))) t
  | some (.tup xs), some (.tup ys) => k (.v (.lst (pairs xs ys))) t
  | _, _ => False
theorem zp_l {xs ys : List D} : zpK (some (.lst xs)) (some (.lst ys)) t k ↔ k (.v (.lst (pairs xs ys))) t := Iff.rfl
theorem zp_t {xs ys : List D} : zpK (some (.tup xs)) (some (.tup ys)) t k ↔ k (.v (.lst (pairs xs ys))) t := Iff.rfl
theorem e_zp : evK O F (.zp a b) ρ t k ↔ evK O F a ρ t fun ra t1 => evK O F b ρ t1 fun rb t2 => zpK ra.st rb.st t2 k := by
  refine bdK.trans (K2_congr fun ra t1 => bdK.trans (K2_congr fun rb t2 => ?_))
  cases ra.st with
  | none => simp [zpK, K2]
  | some x => cases rb.st with
    | none => cases x <;> simp [zpK, K2]
    | some y => cases x <;> cases y <;> simp [zpK, K2_some, K2_none]
theorem e_get : evK O F (.get a b c) ρ t k ↔ evK O F a ρ t fun ra t1 => evK O F b ρ t1 fun rb t2 => evK O F c ρ t2 fun rc t3 => okK rc.st fun e => okK (getD ra.d rb.d e) fun d => k (.v d) t3 := by
  refine bdK.trans (K2_congr fun ra t1 => bdK.trans (K2_congr fun rb t2 => bdK.trans (K2_congr fun rc t3 => ?_)))
  cases rc.st with
  | none => simp [okK, K2]
  | some e => rw [okK_some]; exact mapK
theorem e_rev : evK O F (.rev a) ρ t k ↔ evK O F a ρ t fun ra t1 => lsK ra.d fun xs => k (.o (.lst xs.reverse)) t1 := by
  refine bdK.trans (K2_congr fun ra t1 => ?_)
  cases ra.d <;> simp [lsK, K2_none, K2_some]
theorem e_scons : evK O F (.scons a b) ρ t k ↔ evK O F a ρ t fun ra t1 => evK O F b ρ t1 fun rb t2 => okK (items ra.d) fun xs => lsK rb.d fun ys => k (.v (.lst (xs ++ ys))) t2 := by
  refine bdK.trans (K2_congr fun ra t1 => bdK.trans (K2_congr fun rb t2 => ?_))
  cases items ra.d with
  | none => simp [okK, K2]
  | some xs => rw [okK_some]; cases rb.d <;> simp [lsK, K2_none, K2_some]
def cmpK {α : Type} (f : D → τ → Option (Option D × τ)) (xs : List D) (t : τ) (k : List D → τ → Prop) : Prop := K2 (compL f xs t) k
theorem e_comp {own : List Nat} {elt tg it test : C} : evK O F (.comp own elt tg it test) ρ t k ↔ evK O F it ρ t fun ri t1 => okK (ri.st.bind items) fun xs => xs.length ≤ sizeLine ∧ K2 (compL (turnD O F own elt tg test ρ) xs t1) fun ys t2 => k (.o (.lst ys)) t2 := by
  refine bdK.trans (K2_congr fun ri t1 => ?_)
  cases ri.st.bind items with
  | none => simp [okK, K2]
  | some xs =>
    rw [okK_some]
    by_cases h : xs.length ≤ sizeLine
    · simp only [h, if_true, true_and]
      refine mapK.trans ?_
      show okK (compL (turnD O F own elt tg test ρ) xs t1) _ ↔ _
      cases compL (turnD O F own elt tg test ρ) xs t1 with
      | none => simp [okK, K2]
      | some p => obtain ⟨ys, t2⟩ := p; rw [okK_some, K2_some]
    · simp [h, K2]
/-- one turn of a comprehension -/
theorem turn_ {own : List Nat} {elt tg test : C} {x : D} {k : Option D → τ → Prop} : K2 (turnD O F own elt tg test ρ x t) k ↔ okK (bindT tg (.v x) (wipe ρ own)) fun ρ1 => evK O F test ρ1 t fun rt t1 => trK (truth rt.d) (evK O F elt ρ1 t1 fun r t2 => okK r.st fun y => k (some y) t2) (k none t1) := by
  unfold turnD
  cases bindT tg (.v x) (wipe ρ own) with
  | none => simp [okK, K2]
  | some ρ1 =>
    rw [okK_some]
    refine bdK.trans (K2_congr fun rt t1 => ?_)
    cases truth rt.d with
    | none => simp [trK, K2]
    | some b =>
      cases b with
      | true => rw [trK_t]; exact bdK.trans (K2_congr fun r t2 => mapK)
      | false => rw [trK_f]; exact K2_some
theorem b1_len_l {xs : List D} : b1D .len (.lst xs) = some (.v (.int xs.length)) := rfl
theorem b1_len_t {xs : List D} : b1D .len (.tup xs) = some (.v (.int xs.length)) := rfl
theorem b1_len_s {x : Str} : b1D .len (.str x) = if x.length ≤ sizeLine then some (.v (.int x.length)) else none := rfl
theorem b1_len_d {ks ws : List D} : b1D .len (.dct ks ws) = some (.v (.int ks.length)) := rfl
theorem b1_int {i : Int} : b1D .int (.int i) = some (.v (.int i)) := rfl
theorem b1_intb {b : Bool} : b1D .int (.bl b) = some (.v (.int (if b then 1 else 0))) := rfl
theorem b1_sorted_d {ks ws : List D} : b1D .sorted (.dct ks ws) = (intsD ks).bind fun is => if is.length < 64 then some (.o (.lst ((isort is).map .int))) else none := rfl
theorem ix_d {ks ws : List D} {i : Int} : ixD (.dct ks ws) (.int i) = valD ks ws (.int i) := rfl
theorem ix_l {xs : List D} {i : Int} : ixD (.lst xs) (.int i) = L2.atI xs i := rfl
theorem ix_t {xs : List D} {i : Int} : ixD (.tup xs) (.int i) = L2.atI xs i := rfl
theorem get_d {ks ws : List D} {i : Int} {e : D} : getD (.dct ks ws) (.int i) e = some ((valD ks ws (.int i)).getD e) := rfl
theorem aI0 {x : D} {xs : List D} : L2.atI (x :: xs) 0 = some x := L2.atI_nat (j := 0) rfl
theorem aI1 {x y : D} {xs : List D} : L2.atI (x :: y :: xs) 1 = some y := L2.atI_nat (j := 1) rfl
theorem b1_abs {i : Int} : b1D .abs (.int i) = some (.v (.int (if i < 0 then -i else i))) := rfl
theorem b1_all {xs : List D} : b1D .all (.lst xs) = (boolsD xs).map fun bs => .v (.bl (bs.all id)) := rfl
theorem b1_any {xs : List D} : b1D .any (.lst xs) = (boolsD xs).map fun bs => .v (.bl (bs.any id)) := rfl
theorem b1_sum {xs : List D} : b1D .sum (.lst xs) = (intsD xs).map fun is => .v (.int is.sum) := rfl
theorem b1_tup_l {xs : List D} : b1D .tuple (.lst xs) = some (.v (.tup xs)) := rfl
theorem b1_tup_t {xs : List D} : b1D .tuple (.tup xs) = some (.v (.tup xs)) := rfl
theorem b1_lst_l {xs : List D} : b1D .list (.lst xs) = some (.o (.lst xs)) := rfl
theorem b1_lst_t {xs : List D} : b1D .list (.tup xs) = some (.o (.lst xs)) := rfl
theorem b1_max {xs : List D} : b1D .max (.lst xs) = (intsD xs).bind fun is => if is = [] then none else some (.v (.int (maxI is))) := rfl
theorem b1_min {xs : List D} : b1D .min (.lst xs) = (intsD xs).bind fun is => if is = [] then none else some (.v (.int (minI is))) := rfl
theorem b1_sorted {xs : List D} : b1D .sorted (.lst xs) = (intsD xs).bind fun is => if is.length < 64 then some (.o (.lst ((isort is).map .int))) else none := rfl
def ocK (o : Option D) (p : D → Prop) (q : Prop) : Prop := match o with
  | some y => p y
  | none => q
theorem oc_s {y : D} {p : D → Prop} {q : Prop} : ocK (some y) p q ↔ p y := Iff.rfl
theorem oc_n {p : D → Prop} {q : Prop} : ocK none p q ↔ q := Iff.rfl
theorem cmp_nil {f : D → τ → Option (Option D × τ)} {k : List D → τ → Prop} : K2 (compL f [] t) k ↔ k [] t := K2_some
theorem cmp_cons {f : D → τ → Option (Option D × τ)} {x : D} {xs : List D} {k : List D → τ → Prop} : K2 (compL f (x :: xs) t) k ↔ K2 (f x t) fun oy t1 => ocK oy (fun y => K2 (compL f xs t1) fun ys t2 => k (y :: ys) t2) (K2 (compL f xs t1) k) := by
  show K2 (match f x t with
    | some (some y, t1) => (compL f xs t1).map fun p => (y :: p.1, p.2)
    | some (none, t1) => compL f xs t1
    | none => none) k ↔ _
  cases f x t with
  | none => simp [K2]
  | some p =>
    obtain ⟨oy, t1⟩ := p
    rw [K2_some]
    cases oy with
    | none => rfl
    | some y =>
      rw [oc_s]
      refine mapK.trans ?_
      cases compL f xs t1 with
      | none => simp [okK, K2]
      | some q => obtain ⟨ys, t2⟩ := q; rw [okK_some, K2_some]
/-! ### statements -/
theorem x_asg {fz : List Nat} {tg e : C} : exK O F W (.asg fz tg e) ρ t kk ↔ evK O F e (frz ρ fz) t fun r t1 => okK (bindT tg r (frz ρ fz)) fun ρ1 => kk .nx ρ1 t1 :=
  bdK3.trans (K2_congr fun r t1 => mapK3)
theorem x_par {fz : List Nat} {i j : Nat} : exK O F W (.par fz i j a b) ρ t kk ↔ evK O F a (frz ρ fz) t fun ra t1 => evK O F b (frz ρ fz) t1 fun rb t2 => okK (bindT (.var i) ra (frz ρ fz)) fun ρ1 => okK (bindT (.var j) rb ρ1) fun ρ2 => kk .nx ρ2 t2 := by
  refine bdK3.trans (K2_congr fun ra t1 => bdK3.trans (K2_congr fun rb t2 => ?_))
  cases bindT (.var i) ra (frz ρ fz) with
  | none => simp [okK, K3]
  | some ρ1 => rw [okK_some]; exact mapK3
theorem x_par3 {fz : List Nat} {i j l : Nat} : exK O F W (.par3 fz i j l a b c) ρ t kk ↔ evK O F a (frz ρ fz) t fun ra t1 => evK O F b (frz ρ fz) t1 fun rb t2 => evK O F c (frz ρ fz) t2 fun rc t3 => okK ra.st fun da => okK rb.st fun db => okK rc.st fun dc => kk .nx ((((frz ρ fz).set i (some (.v da))).set j (some (.v db))).set l (some (.v dc))) t3 := by
  refine bdK3.trans (K2_congr fun ra t1 => bdK3.trans (K2_congr fun rb t2 => bdK3.trans (K2_congr fun rc t3 => ?_)))
  cases ra.st with
  | none => simp [okK, K3]
  | some da => cases rb.st with
    | none => simp [okK, K3]
    | some db => cases rc.st with
      | none => simp [okK, K3]
      | some dc => simp [okK_some, K3_some]
def stoK (x : Option D) (y : Option (Option R)) (i : D) (k : D → Prop) : Prop := match x, y with
  | some z, some (some (.o d)) => okK (setAt d i z) k
  | _, _ => False
theorem sto_ {z d i : D} {k : D → Prop} : stoK (some z) (some (some (.o d))) i k ↔ okK (setAt d i z) k := Iff.rfl
theorem x_sto {fz : List Nat} {i : Nat} {ix e : C} : exK O F W (.sto fz i ix e) ρ t kk ↔ evK O F e (frz ρ fz) t fun r t1 => evK O F ix (frz ρ fz) t1 fun ri t2 => stoK r.st (frz ρ fz)[i]? ri.d fun d' => kk .nx ((frz ρ fz).set i (some (.o d'))) t2 := by
  refine bdK3.trans (K2_congr fun r t1 => bdK3.trans (K2_congr fun ri t2 => ?_))
  cases r.st with
  | none => simp [stoK, K3]
  | some z => cases (frz ρ fz)[i]? with
    | none => simp [stoK, K3]
    | some q => cases q with
      | none => simp [stoK, K3]
      | some q => cases q <;> simp [stoK, K3_none, mapK3]
def appK (x : Option D) (y : Option (Option R)) (k : D → Prop) : Prop := match x, y with
  | some z, some (some (.o (.lst xs))) => xs.length < sizeLine ∧ k (.lst (xs ++ [z]))
  | _, _ => False
theorem app_ {z : D} {xs : List D} {k : D → Prop} : appK (some z) (some (some (.o (.lst xs)))) k ↔ xs.length < sizeLine ∧ k (.lst (xs ++ [z])) := Iff.rfl
theorem x_app {fz : List Nat} {i : Nat} {e : C} : exK O F W (.app fz i e) ρ t kk ↔ evK O F e (frz ρ fz) t fun r t1 => appK r.st (frz ρ fz)[i]? fun d' => kk .nx ((frz ρ fz).set i (some (.o d'))) t1 := by
  refine bdK3.trans (K2_congr fun r t1 => ?_)
  cases r.st with
  | none => simp [appK, K3]
  | some z => cases (frz ρ fz)[i]? with
    | none => simp [appK, K3]
    | some q => cases q with
      | none => simp [appK, K3]
      | some q => cases q with
        | v d => simp [appK, K3]
        | k d => simp [appK, K3]
        | o d => cases d <;> simp [appK, K3_none]
                 rename_i xs
                 by_cases h : xs.length < sizeLine <;> simp [h, K3_some, K3_none]
def extK (x : Option D) (y : Option (Option R)) (k : D → Prop) : Prop := match x, y with
  | some (.lst ys), some (some (.o (.lst xs))) => xs.length + ys.length ≤ sizeLine ∧ k (.lst (xs ++ ys))
  | _, _ => False
theorem ext_ {ys xs : List D} {k : D → Prop} : extK (some (.lst ys)) (some (some (.o (.lst xs)))) k ↔ xs.length + ys.length ≤ sizeLine ∧ k (.lst (xs ++ ys)) := Iff.rfl
theorem x_ext {fz : List Nat} {i : Nat} {e : C} : exK O F W (.ext fz i e) ρ t kk ↔ evK O F e (frz ρ fz) t fun r t1 => extK r.st (frz ρ fz)[i]? fun d' => kk .nx ((frz ρ fz).set i (some (.o d'))) t1 := by
  refine bdK3.trans (K2_congr fun r t1 => ?_)
  cases r.st with
  | none => simp [extK, K3]
  | some z => cases z <;> simp [extK, K3_none]
              cases (frz ρ fz)[i]? with
              | none => simp [K3]
              | some q => cases q with
                | none => simp [K3]
                | some q => cases q with
                  | v d => simp [K3]
                  | k d => simp [K3]
                  | o d => cases d <;> simp [K3_none]
                           rename_i ys xs
                           by_cases h : xs.length + ys.length ≤ sizeLine <;> simp [h, K3_some, K3_none]
theorem x_ex {fz : List Nat} {e : C} : exK O F W (.ex fz e) ρ t kk ↔ evK O F e (frz ρ fz) t fun _ t1 => kk .nx (frz ρ fz) t1 :=
  bdK3.trans (K2_congr fun r t1 => K3_some)
def popK (y : Option (Option R)) (k : List D → D → Prop) : Prop := match y with
  | some (some (.o (.lst (x :: xs)))) => k (x :: xs).dropLast ((x :: xs).getLast (by simp))
  | _ => False
theorem pop_ {x : D} {xs : List D} {k : List D → D → Prop} : popK (some (some (.o (.lst (x :: xs))))) k ↔ k (x :: xs).dropLast ((x :: xs).getLast (by simp)) := Iff.rfl
theorem x_pop {i : Nat} : exK O F W (.pop none i) ρ t kk ↔ popK ρ[i]? fun ys _ => kk .nx (ρ.set i (some (.o (.lst ys)))) t := by
  show K3 (match ρ[i]? with
    | some (some (.o (.lst (x :: xs)))) => some (Out.nx, ρ.set i (some (.o (.lst (x :: xs).dropLast))), t)
    | _ => none) kk ↔ _
  cases ρ[i]? with
  | none => simp [popK, K3]
  | some q => cases q with
    | none => simp [popK, K3]
    | some q => cases q with
      | v d => simp [popK, K3]
      | k d => simp [popK, K3]
      | o d => cases d <;> simp [popK, K3_none]
               rename_i xs
               cases xs <;> simp [K3_some, K3_none]
theorem x_popj {i j : Nat} : exK O F W (.pop (some j) i) ρ t kk ↔ popK ρ[i]? fun ys y => i ≠ j ∧ kk .nx ((ρ.set i (some (.o (.lst ys)))).set j (some (.v y))) t := by
  show K3 (match ρ[i]? with
    | some (some (.o (.lst (x :: xs)))) => if i = j then none else some (Out.nx, (ρ.set i (some (.o (.lst (x :: xs).dropLast)))).set j (some (.v ((x :: xs).getLast (by simp)))), t)
    | _ => none) kk ↔ _
  cases ρ[i]? with
  | none => simp [popK, K3]
  | some q => cases q with
    | none => simp [popK, K3]
    | some q => cases q with
      | v d => simp [popK, K3]
      | k d => simp [popK, K3]
      | o d => cases d <;> simp [popK, K3_none]
               rename_i xs
               cases xs with
               | nil => simp [K3_none]
               | cons y ys => by_cases h : i = j <;> simp [h, K3_some, K3_none]
def retK (e : C) (r : R) (k : R → Prop) : Prop := match r with
  | .v d => k (.v d)
  | .o d => k (.o d)
  | .k d => isVar e = true ∧ k (.o d)
theorem ret_v {e : C} {d : D} {k : R → Prop} : retK e (.v d) k ↔ k (.v d) := Iff.rfl
theorem ret_o {e : C} {d : D} {k : R → Prop} : retK e (.o d) k ↔ k (.o d) := Iff.rfl
theorem ret_k {i : Nat} {d : D} {k : R → Prop} : retK (.var i) (.k d) k ↔ k (.o d) := by simp [retK, isVar]
theorem x_ret {fz : List Nat} {e : C} : exK O F W (.ret fz e) ρ t kk ↔ evK O F e (frz ρ fz) t fun r t1 => retK e r fun r' => kk (.rt r') (frz ρ fz) t1 := by
  refine bdK3.trans (K2_congr fun r t1 => ?_)
  cases r with
  | v d => exact K3_some
  | o d => exact K3_some
  | k d => by_cases h : isVar e = true <;> simp [retK, h, K3_some, K3_none]
theorem x_ifs {fz : List Nat} {e : C} {p q : S} : exK O F W (.ifs fz e p q) ρ t kk ↔ evK O F e (frz ρ fz) t fun r t1 => trK (truth r.d) (exK O F W p (frz ρ fz) t1 kk) (exK O F W q (frz ρ fz) t1 kk) := by
  refine bdK3.trans (K2_congr fun r t1 => ?_)
  cases truth r.d with
  | none => simp [trK, K3]
  | some b => cases b <;> simp [trK]
theorem x_brk : exK O F W .brk ρ t kk ↔ kk .bk ρ t := K3_some
theorem x_cnt : exK O F W .cnt ρ t kk ↔ kk .ct ρ t := K3_some
theorem x_pas : exK O F W .pas ρ t kk ↔ kk .nx ρ t := K3_some
def sqK (O : Pk τ) (F : Fs τ) (W : Nat) (b : S) (kk : Out → Rho → τ → Prop) (o : Out) (ρ : Rho) (t : τ) : Prop := match o with
  | .nx => exK O F W b ρ t kk
  | .bk => kk .bk ρ t
  | .ct => kk .ct ρ t
  | .rt r => kk (.rt r) ρ t
theorem sq_n {b : S} : sqK O F W b kk .nx ρ t ↔ exK O F W b ρ t kk := Iff.rfl
theorem sq_b {b : S} : sqK O F W b kk .bk ρ t ↔ kk .bk ρ t := Iff.rfl
theorem sq_c {b : S} : sqK O F W b kk .ct ρ t ↔ kk .ct ρ t := Iff.rfl
theorem sq_r {b : S} {r : R} : sqK O F W b kk (.rt r) ρ t ↔ kk (.rt r) ρ t := Iff.rfl
theorem x_seq {p q : S} : exK O F W (.seq p q) ρ t kk ↔ exK O F W p ρ t (sqK O F W q kk) := by
  show K3 (match exec O F W p ρ t with
    | some (.nx, ρ1, t1) => exec O F W q ρ1 t1
    | some (o, ρ1, t1) => some (o, ρ1, t1)
    | none => none) kk ↔ K3 (exec O F W p ρ t) _
  cases exec O F W p ρ t with
  | none => simp [K3]
  | some z =>
    obtain ⟨o, ρ1, t1⟩ := z
    rw [K3_some]
    cases o <;> first | rfl | exact K3_some
/-- the body of a for, at one item -/
def forB (O : Pk τ) (F : Fs τ) (W : Nat) (tg : C) (b : S) : D → Rho → τ → Option (Out × Rho × τ) := fun x ρ t => match bindT tg (.v x) ρ with
  | some ρ1 => exec O F W b ρ1 t
  | none => none
theorem forB_ {tg : C} {b : S} {x : D} : K3 (forB O F W tg b x ρ t) kk ↔ okK (bindT tg (.v x) ρ) fun ρ1 => exK O F W b ρ1 t kk := by
  unfold forB
  cases bindT tg (.v x) ρ with
  | none => simp [okK, K3]
  | some ρ1 => rw [okK_some]
theorem x_fr {fz : List Nat} {tg it : C} {b : S} : exK O F W (.fr fz tg it b) ρ t kk ↔ evK O F it (frz ρ fz) t fun r t1 => okK (r.st.bind items) fun xs => K3 (forL (forB O F W tg b) xs (frz ρ fz) t1) kk := by
  refine bdK3.trans (K2_congr fun r t1 => ?_)
  cases r.st.bind items with
  | none => simp [okK, K3]
  | some xs => rw [okK_some]; rfl
def whlC (O : Pk τ) (F : Fs τ) (c : C) : Rho → τ → Option (Bool × τ) := fun ρ t => bd (ev O F c ρ t) fun r t1 => (truth r.d).map fun b => (b, t1)
theorem whlC_ {c : C} {k : Bool → τ → Prop} : K2 (whlC O F c ρ t) k ↔ evK O F c ρ t fun r t1 => okK (truth r.d) fun b => k b t1 :=
  bdK.trans (K2_congr fun r t1 => mapK)
theorem x_whl {fz : List Nat} {c : C} {b : S} : exK O F W (.whl fz c b) ρ t kk ↔ K3 (whlL (whlC O F c) (exec O F W b) W (frz ρ fz) t) kk := Iff.rfl
end

/-! ### loops -/
section
variable {τ : Type}
theorem for_inv {f : D → Rho → τ → Option (Out × Rho × τ)} {kk : Out → Rho → τ → Prop} (I : Nat → Rho → τ → Prop) : ∀ (xs : List D) (n : Nat) (ρ : Rho) (t : τ), I n ρ t →
    (∀ i x ρ t, xs[i]? = some x → I (n + i) ρ t → K3 (f x ρ t) fun o ρ' t' => match o with | .nx => I (n + i + 1) ρ' t' | .ct => I (n + i + 1) ρ' t' | .bk => kk .nx ρ' t' | .rt r => kk (.rt r) ρ' t') →
    (∀ ρ t, I (n + xs.length) ρ t → kk .nx ρ t) → K3 (forL f xs ρ t) kk
  | [], n, ρ, t, h, _, e => K3_some.mpr (e ρ t h)
  | x :: xs, n, ρ, t, h, st, e => by
    obtain ⟨o, ρ1, t1, hx, q⟩ := st 0 x ρ t rfl h
    unfold forL
    rw [hx]
    have next : I (n + 1) ρ1 t1 → K3 (forL f xs ρ1 t1) kk := fun h1 => for_inv I xs (n + 1) ρ1 t1 h1 (fun i y ρ t hy hi => by
      have := st (i + 1) y ρ t hy (by rw [show n + (i + 1) = n + 1 + i by omega]; exact hi)
      rw [show n + (i + 1) = n + 1 + i by omega] at this
      exact this) (fun ρ t hi => e ρ t (by rw [List.length_cons, show n + (xs.length + 1) = n + 1 + xs.length by omega]; exact hi))
    cases o with
    | nx => exact next q
    | ct => exact next q
    | bk => exact K3_some.mpr q
    | rt r => exact K3_some.mpr q
theorem for_rng {f : D → Rho → τ → Option (Out × Rho × τ)} {kk : Out → Rho → τ → Prop} (I : Nat → Rho → τ → Prop) {lo : Int} {n : Nat} {ρ : Rho} {t : τ} (h : I 0 ρ t)
    (st : ∀ i ρ t, i < n → I i ρ t → K3 (f (.int (lo + (i : Nat))) ρ t) fun o ρ' t' => match o with | .nx => I (i + 1) ρ' t' | .ct => I (i + 1) ρ' t' | .bk => kk .nx ρ' t' | .rt r => kk (.rt r) ρ' t')
    (e : ∀ ρ t, I n ρ t → kk .nx ρ t) : K3 (forL f (rangeD lo n) ρ t) kk :=
  for_inv I (rangeD lo n) 0 ρ t h (fun i x ρ t hx hi => by
    have hlt : i < n := by have := (List.getElem?_eq_some_iff.mp hx).1; rwa [rangeD_len] at this
    rw [rangeD_get _ _ _ _ hx]
    rw [Nat.zero_add] at hi ⊢
    exact st i ρ t hlt hi) fun ρ t hi => e ρ t (by rwa [rangeD_len, Nat.zero_add] at hi)
theorem for_lst {f : D → Rho → τ → Option (Out × Rho × τ)} {kk : Out → Rho → τ → Prop} (I : Nat → Rho → τ → Prop) {xs : List D} {ρ : Rho} {t : τ} (h : I 0 ρ t)
    (st : ∀ i x ρ t, xs[i]? = some x → I i ρ t → K3 (f x ρ t) fun o ρ' t' => match o with | .nx => I (i + 1) ρ' t' | .ct => I (i + 1) ρ' t' | .bk => kk .nx ρ' t' | .rt r => kk (.rt r) ρ' t')
    (e : ∀ ρ t, I xs.length ρ t → kk .nx ρ t) : K3 (forL f xs ρ t) kk :=
  for_inv I xs 0 ρ t h (fun i x ρ t hx hi => by
    rw [Nat.zero_add] at hi ⊢
    exact st i x ρ t hx hi) fun ρ t hi => e ρ t (by rwa [Nat.zero_add] at hi)
theorem whl_inv {c : Rho → τ → Option (Bool × τ)} {f : Rho → τ → Option (Out × Rho × τ)} {kk : Out → Rho → τ → Prop} (I : Nat → Rho → τ → Prop) : ∀ (W m : Nat) (ρ : Rho) (t : τ), m < W → I m ρ t →
    (∀ m ρ t, I m ρ t → K2 (c ρ t) fun b t1 => (b = true → K3 (f ρ t1) fun o ρ' t' => match o with | .nx => ∃ m', m' < m ∧ I m' ρ' t' | .ct => ∃ m', m' < m ∧ I m' ρ' t' | .bk => kk .nx ρ' t' | .rt r => kk (.rt r) ρ' t') ∧ (b = false → kk .nx ρ t1)) →
    K3 (whlL c f W ρ t) kk
  | 0, m, ρ, t, h, _, _ => absurd h (Nat.not_lt_zero _)
  | W + 1, m, ρ, t, h, hi, st => by
    obtain ⟨b, t1, hc, h1, h2⟩ := st m ρ t hi
    unfold whlL
    rw [hc]
    cases b with
    | false => exact K3_some.mpr (h2 rfl)
    | true =>
      obtain ⟨o, ρ1, t2, hf, q⟩ := h1 rfl
      simp only [hf]
      cases o with
      | nx => obtain ⟨m', a, b⟩ := q; exact whl_inv I W m' ρ1 t2 (by omega) b st
      | ct => obtain ⟨m', a, b⟩ := q; exact whl_inv I W m' ρ1 t2 (by omega) b st
      | bk => exact K3_some.mpr q
      | rt r => exact K3_some.mpr q
theorem cmp_map {f : D → τ → Option (Option D × τ)} (g : D → D) {k : List D → τ → Prop} : ∀ (xs : List D) (t : τ), (∀ x ∈ xs, K2 (f x t) fun y t' => y = some (g x) ∧ t' = t) → k (xs.map g) t → K2 (compL f xs t) k
  | [], t, _, h => K2_some.mpr h
  | x :: xs, t, hf, h => by
    obtain ⟨y, t', e, rfl, rfl⟩ := hf x (List.mem_cons_self ..)
    unfold compL
    rw [e]
    obtain ⟨ys, t2, e2, rfl, rfl⟩ := cmp_map (k := fun ys t2 => ys = xs.map g ∧ t2 = t') g xs t' (fun x hx => hf x (List.mem_cons_of_mem _ hx)) ⟨rfl, rfl⟩
    simp only [e2]
    exact K2_some.mpr h
theorem cmp_inv {f : D → τ → Option (Option D × τ)} (P : D → Prop) {k : List D → τ → Prop} : ∀ (xs : List D) (t : τ), (∀ x ∈ xs, ∀ t, K2 (f x t) fun y _ => ∃ z, y = some z ∧ P z) → (∀ ys t', ys.length = xs.length → (∀ y ∈ ys, P y) → k ys t') → K2 (compL f xs t) k
  | [], t, _, h => K2_some.mpr (h [] t rfl (fun _ z => nomatch z))
  | x :: xs, t, hf, h => by
    obtain ⟨y, t', e, z, rfl, hz⟩ := hf x (List.mem_cons_self ..) t
    unfold compL
    rw [e]
    obtain ⟨ys, t2, e2, l, p⟩ := cmp_inv (k := fun ys t2 => ys.length = xs.length ∧ ∀ y ∈ ys, P y) P xs t' (fun x hx => hf x (List.mem_cons_of_mem _ hx)) (fun ys t' a b => ⟨a, b⟩)
    simp only [e2]
    exact K2_some.mpr (h _ _ (by simp [l]) (fun y hy => (List.mem_cons.mp hy).elim (fun e => e ▸ hz) (p y)))
theorem cmp_filter {f : D → τ → Option (Option D × τ)} (g : D → Bool) {k : List D → τ → Prop} : ∀ (xs : List D) (t : τ), (∀ x ∈ xs, K2 (f x t) fun y t' => y = (if g x then some x else none) ∧ t' = t) → k (xs.filter g) t → K2 (compL f xs t) k
  | [], t, _, h => K2_some.mpr h
  | x :: xs, t, hf, h => by
    obtain ⟨y, t', e, hy, rfl⟩ := hf x (List.mem_cons_self ..)
    obtain ⟨ys, t2, e2, rfl, rfl⟩ := cmp_filter (k := fun ys t2 => ys = xs.filter g ∧ t2 = t') g xs t' (fun x hx => hf x (List.mem_cons_of_mem _ hx)) ⟨rfl, rfl⟩
    unfold compL
    rw [e, hy]
    by_cases q : g x = true
    · simp only [q, if_true, e2]
      rw [List.filter_cons_of_pos q] at h
      exact K2_some.mpr h
    · rw [if_neg q]
      simp only [e2]
      rw [List.filter_cons_of_neg q] at h
      exact K2_some.mpr h
end
/-! ### a def's call -/
section
variable {τ : Type} {O : Pk τ} {W : Nat} {prog : Nat → Option Fn}
theorem run_ {n f : Nat} {fn : Fn} {ds : List D} {t : τ} {k : R → τ → Prop} (h : prog f = some fn) (hl : ds.length = fn.np) (q : exK O (run O W prog n) W fn.body (begin_ fn ds) t fun o _ t' => match o with | .nx => k (.v .non) t' | .rt r => k r t' | _ => False) : K2 (run O W prog (n + 1) f ds t) k := by
  obtain ⟨o, ρ1, t1, e, q⟩ := q
  show K2 (match prog f with
    | some fn => if ds.length = fn.np then match exec O (run O W prog n) W fn.body (begin_ fn ds) t with
        | some (.nx, _, t1) => some (.v .non, t1)
        | some (.rt r, _, t1) => some (r, t1)
        | _ => none
      else none
    | none => none) k
  rw [h]
  simp only [hl, if_true, e]
  cases o with
  | nx => exact K2_some.mpr q
  | rt r => exact K2_some.mpr q
  | bk => exact q.elim
  | ct => exact q.elim
end
end PyI

set_option Elab.async false
set_option linter.all false
set_option maxRecDepth 100000
set_option maxHeartbeats 4000000
/-! PyI: what is shown of plain data, and how long that is; what plain data is equal. -/
namespace PyI
open PySem PySem.PyData

theorem sOk_app {x y : Str} : strOk (x ++ y) = (strOk x && strOk y) := by
  show (x.cps ++ y.cps).all _ = _
  rw [Array.all_append]
  rfl
theorem sOk_of (s : String) : strOk (Str.ofString s) = true := by
  rw [Str.ofString_eq_toList]
  show (Array.all _ _) = true
  rw [Array.all_eq_true']
  intro c hc
  simp only [List.mem_toArray, List.mem_map] at hc
  obtain ⟨ch, _, rfl⟩ := hc
  have h := ch.valid
  simp only [UInt32.isValidChar, Nat.isValidChar] at h
  refine decide_eq_true ?_
  show ch.val.toNat < 0x110000
  omega
mutual
/-- ints not too great, no dict, no text -/
def nums : PyData → Bool
  | .none => true
  | .bool _ => true
  | .int i => decide (i.natAbs.log2 < 1920)
  | .str _ => false
  | .list xs => numsAll xs
  | .tuple xs => numsAll xs
  | .dict _ => false
def numsAll : List PyData → Bool
  | [] => true
  | x :: xs => nums x && numsAll xs
end
mutual
def nodes : PyData → Nat
  | .list xs => nodesAll xs + 1
  | .tuple xs => nodesAll xs + 1
  | _ => 1
def nodesAll : List PyData → Nat
  | [] => 0
  | x :: xs => nodes x + nodesAll xs
end
def lenAll : List Str → Nat
  | [] => 0
  | x :: xs => x.length + 2 + lenAll xs
theorem textFrom_all : ∀ (ts : List Str) (k : Nat) (acc : Str), (textFrom k acc ts).length ≤ acc.length + lenAll ts ∧ (strOk acc = true → ts.all strOk = true → strOk (textFrom k acc ts) = true)
  | [], k, acc => ⟨Nat.le_refl _, fun h _ => h⟩
  | t :: ts, k, acc => by
    obtain ⟨h1, h2⟩ := textFrom_all ts (k + 1) (acc ++ (if k > 0 then ", " else "" : String) ++ t)
    refine ⟨Nat.le_trans h1 ?_, fun ha ht => h2 ?_ ?_⟩
    · rw [strLen_append, strLen_append]
      show _ ≤ acc.length + (t.length + 2 + lenAll ts)
      have : (Str.ofString (if k > 0 then ", " else "" : String)).length ≤ 2 := by split <;> decide
      have e : (((if k > 0 then ", " else "" : String)) : Str).length = (Str.ofString (if k > 0 then ", " else "" : String)).length := rfl
      omega
    · rw [List.all_cons, Bool.and_eq_true] at ht
      rw [sOk_app, sOk_app, ha, ht.1, sOk_of]; rfl
    · rw [List.all_cons, Bool.and_eq_true] at ht
      exact ht.2
theorem join_all : ∀ (ts : List Str), (Str.join ", " ts).length ≤ lenAll ts ∧ (ts.all strOk = true → strOk (Str.join ", " ts) = true)
  | [] => ⟨Nat.le_refl _, fun _ => (by show strOk Str.empty = true; simp [strOk, Str.empty])⟩
  | [t] => ⟨by show t.length ≤ t.length + 2 + 0; omega, fun h => by rw [List.all_cons, Bool.and_eq_true] at h; exact h.1⟩
  | t :: u :: ts => by
    obtain ⟨h1, h2⟩ := join_all (u :: ts)
    refine ⟨?_, fun h => ?_⟩
    · show (t ++ (", " : Str) ++ Str.join ", " (u :: ts)).length ≤ t.length + 2 + lenAll (u :: ts)
      rw [strLen_append, strLen_append]
      have : (", " : Str).length = 2 := by decide
      omega
    · rw [List.all_cons, Bool.and_eq_true] at h
      show strOk (t ++ (", " : Str) ++ Str.join ", " (u :: ts)) = true
      rw [sOk_app, sOk_app, h.1, h2 h.2, sOk_of]
      rfl
mutual
theorem shown_all : ∀ p : PyData, nums p = true → p.shown.length + 2 ≤ 2000 * nodes p ∧ strOk p.shown = true ∧ p.showable = true ∧ p.canLay0 = true
  | .none, _ => ⟨by decide, sOk_of _, by simp only [PyData.showable], by simp only [PyData.canLay0]⟩
  | .bool b, _ => ⟨by cases b <;> decide, by cases b <;> exact sOk_of _, by simp only [PyData.showable], by simp only [PyData.canLay0]⟩
  | .int i, h => by
    have h : i.natAbs.log2 < 1920 := by simpa [nums] using h
    refine ⟨?_, ?_, by simpa [PyData.showable] using h, by simp only [PyData.canLay0]⟩
    · have := PyProof.Rows.int_text_len_1921 h
      simp only [PyData.shown, nodes]
      show (Str.ofString (toString i)).length + 2 ≤ _
      omega
    · simp only [PyData.shown]; exact sOk_of _
  | .str _, h => by simp [nums] at h
  | .dict _, h => by simp [nums] at h
  | .list xs, h => by
    obtain ⟨h1, h2, h3, h4⟩ := shown_alls xs (by simpa [nums] using h)
    obtain ⟨k1, k2⟩ := textFrom_all (PyData.shownAll xs) 0 "["
    refine ⟨?_, ?_, by simpa [PyData.showable] using h3, by simpa [PyData.canLay0] using h4⟩
    · simp only [PyData.shown, nodes, listText]
      rw [strLen_append]
      have a : ("[" : Str).length = 1 := by decide
      have b : ("]" : Str).length = 1 := by decide
      omega
    · simp only [PyData.shown, listText]
      rw [sOk_app, k2 (sOk_of _) h2, sOk_of]
      rfl
  | .tuple xs, h => by
    obtain ⟨h1, h2, h3, h4⟩ := shown_alls xs (by simpa [nums] using h)
    obtain ⟨k1, k2⟩ := join_all (PyData.shownAll xs)
    refine ⟨?_, ?_, by simpa [PyData.showable] using h3, by simpa [PyData.canLay0] using h4⟩
    · simp only [PyData.shown, nodes, tupleText]
      rw [strLen_append, strLen_append]
      have a : ("(" : Str).length = 1 := by decide
      have b : ((if (PyData.shownAll xs).length == 1 then ",)" else ")" : String) : Str).length ≤ 2 := by split <;> decide
      omega
    · simp only [PyData.shown, tupleText]
      rw [sOk_app, sOk_app, k2 h2, sOk_of, sOk_of]
      rfl
theorem shown_alls : ∀ xs : List PyData, numsAll xs = true → lenAll (PyData.shownAll xs) ≤ 2000 * nodesAll xs ∧ (PyData.shownAll xs).all strOk = true ∧ PyData.showableAll xs = true ∧ PyData.canLayAll0 xs = true
  | [], _ => ⟨Nat.le_refl _, rfl, by simp only [PyData.showableAll], by simp only [PyData.canLayAll0]⟩
  | x :: xs, h => by
    simp only [numsAll, Bool.and_eq_true] at h
    obtain ⟨a1, a2, a3, a4⟩ := shown_all x h.1
    obtain ⟨b1, b2, b3, b4⟩ := shown_alls xs h.2
    refine ⟨?_, ?_, by simp only [PyData.showableAll, a3, b3, Bool.and_self], by simp only [PyData.canLayAll0, a4, b4, Bool.and_self]⟩
    · simp only [PyData.shownAll, lenAll, nodesAll]
      omega
    · simp only [PyData.shownAll, List.all_cons, a2, b2, Bool.and_self]
end

/-! ### repr and == of plain data -/
theorem b1_repr {d : D} {p : PyData} (h : d.toP = some p) (hn : nums p = true) (hz : nodes p ≤ 8000) (hd : p.depth ≤ 60) : b1D .repr d = some (.v (.str p.shown)) := by
  obtain ⟨h1, _, h3, _⟩ := shown_all p hn
  have h2 : p.shown.length ≤ sizeLine := by rw [sizeLine_eq]; omega
  unfold b1D
  simp [h, h3, h2, hd]
theorem eq_shown {p q : PyData} (hp : nums p = true) (hq : nums q = true) : eqD (.str p.shown) (.str q.shown) = some (p.shown == q.shown) := by
  obtain ⟨_, h1, _, _⟩ := shown_all p hp
  obtain ⟨_, h2, _, _⟩ := shown_all q hq
  unfold eqD
  simp [D.toP, SeqAt.shaped, canLay0, h1, h2, depth, eqv]
abbrev I (xs : List Int) : List D := xs.map .int
theorem toPs_I : ∀ xs : List Int, D.toPs (I xs) = some (xs.map .int)
  | [] => rfl
  | x :: xs => by
    show (D.toP (.int x)).bind _ = _
    rw [show D.toPs (List.map D.int xs) = _ from toPs_I xs]
    rfl
theorem canLay_I : ∀ xs : List Int, canLayAll0 (xs.map .int) = true
  | [] => rfl
  | x :: xs => by simp only [List.map_cons, canLayAll0, canLay0, canLay_I xs, Bool.and_self]
theorem depth_I : ∀ xs : List Int, depthAll (xs.map .int) = 0
  | [] => rfl
  | x :: xs => by simp only [List.map_cons, depthAll, depth, depth_I xs, Nat.max_self]
theorem eqv_I : ∀ xs ys : List Int, eqvAll (xs.map .int) (ys.map .int) = decide (xs = ys)
  | [], [] => by simp [eqvAll]
  | x :: xs, [] => by simp [eqvAll]
  | [], y :: ys => by simp [eqvAll]
  | x :: xs, y :: ys => by
    simp only [List.map_cons, eqvAll, eqv, eqv_I xs ys]
    by_cases h : x = y <;> by_cases g : xs = ys <;> simp [h, g]
theorem eq_tupI (xs ys : List Int) : eqD (.tup (I xs)) (.tup (I ys)) = some (decide (xs = ys)) := by
  unfold eqD
  simp [D.toP, toPs_I, SeqAt.shaped, canLay0, canLay_I, depth, depth_I, eqv, eqv_I]
theorem eq_lstI (xs ys : List Int) : eqD (.lst (I xs)) (.lst (I ys)) = some (decide (xs = ys)) := by
  unfold eqD
  simp [D.toP, toPs_I, SeqAt.shaped, canLay0, canLay_I, depth, depth_I, eqv, eqv_I]
theorem eq_int (x y : Int) : eqD (.int x) (.int y) = some (x == y) := by
  unfold eqD
  simp [D.toP, SeqAt.shaped, canLay0, depth, eqv]
theorem eq_bl (x y : Bool) : eqD (.bl x) (.bl y) = some (x == y) := by
  unfold eqD
  simp [D.toP, SeqAt.shaped, canLay0, depth, eqv]
theorem intsD_I : ∀ xs : List Int, intsD (I xs) = some xs
  | [] => rfl
  | x :: xs => by
    show (intsD (I xs)).map _ = _
    rw [intsD_I xs]; rfl
theorem boolsD_I : ∀ xs : List Bool, boolsD (xs.map .bl) = some xs
  | [] => rfl
  | x :: xs => by
    show (boolsD (xs.map .bl)).map _ = _
    rw [boolsD_I xs]; rfl
theorem nums_I : ∀ xs : List Int, (∀ x ∈ xs, x.natAbs.log2 < 1920) → numsAll (xs.map .int) = true
  | [], _ => rfl
  | x :: xs, h => by
    simp only [List.map_cons, numsAll, nums, nums_I xs (fun y hy => h y (List.mem_cons_of_mem _ hy)), Bool.and_true]
    exact decide_eq_true (h x (List.mem_cons_self ..))
theorem nodes_I : ∀ xs : List Int, nodesAll (xs.map .int) = xs.length
  | [] => rfl
  | x :: xs => by simp only [List.map_cons, nodesAll, nodes, nodes_I xs, List.length_cons]; omega
theorem rangeD_I : ∀ (n : Nat) (lo : Int), rangeD lo n = (List.range n).map fun i => .int (lo + (i : Nat))
  | 0, _ => rfl
  | n + 1, lo => by
    rw [rangeD, rangeD_I n, List.range_succ_eq_map, List.map_cons, List.map_map]
    simp
    intro a _
    omega
theorem rangeD_0 (n : Nat) : rangeD 0 n = (List.range n).map fun i => .int (i : Nat) := by
  rw [rangeD_I]
  simp
theorem log2_le {x e : Nat} (h : x < 2 ^ e) : x.log2 ≤ e := by
  by_cases hx : x = 0
  · subst hx; simp
  · exact Nat.le_of_lt ((Nat.log2_lt hx).mpr h)
theorem mulL {i j : Int} {a b : Nat} (hi : i.natAbs < 2 ^ a) (hj : j.natAbs < 2 ^ b) (h : a + b < 1000000) : i.natAbs.log2 + j.natAbs.log2 < 1000000 := by
  have := log2_le hi
  have := log2_le hj
  omega
theorem cut_to {α : Type} (xs : List α) (m : Nat) : cut xs none (some (m : Int)) = xs.take m := by
  unfold cut
  rw [HT.sIx_none, HT.sIx_nat, List.drop_zero, Nat.sub_zero]
  exact (List.take_eq_take_iff.mpr (by omega))
theorem cut_from {α : Type} (xs : List α) (m : Nat) : cut xs (some (m : Int)) none = xs.drop m := by
  unfold cut
  rw [HT.sIx_none, HT.sIx_nat]
  by_cases h : m ≤ xs.length
  · rw [Nat.min_eq_left h, List.take_of_length_le (by simp)]
  · rw [Nat.min_eq_right (by omega), List.drop_length, List.drop_of_length_le (by omega)]; simp
theorem atI_n {xs : List D} {j : Nat} {d : D} (h : xs[j]? = some d) : L2.atI xs (j : Int) = some d := L2.atI_nat h
theorem getI {xs : List Int} {j : Nat} (h : j < xs.length) : (I xs)[j]? = some (.int (xs.getD j 0)) := by
  simp [I, List.getElem?_map, List.getElem?_eq_getElem h, List.getD_eq_getElem?_getD]
theorem atI_I {xs : List Int} {j : Nat} (h : j < xs.length) : L2.atI (I xs) (j : Int) = some (.int (xs.getD j 0)) := L2.atI_nat (getI h)
theorem atI_lastI (ys : List Int) (x : Int) : L2.atI (I (ys ++ [x])) (-1) = some (.int x) := by
  have : I (ys ++ [x]) = I ys ++ [.int x] := by simp [I]
  rw [this]
  exact L2.atI_last _ _
theorem ixN_n {n j : Nat} (hj : j < n) : L2.ixN n (j : Int) = some j := by
  unfold L2.ixN
  rw [if_pos (by omega), if_pos (by omega), Int.toNat_natCast]
theorem setI {xs : List Int} {j : Nat} {v : Int} (h : j < xs.length) : setAt (.lst (I xs)) (.int (j : Int)) (.int v) = some (.lst (I (xs.set j v))) := by
  show (L2.ixN (I xs).length (j : Int)).map _ = _
  rw [List.length_map, ixN_n h]
  simp [I, List.map_set]
theorem eq_lst_nil (xs : List Int) : eqD (.lst (I xs)) (.lst []) = some (decide (xs = [])) := eq_lstI xs []
theorem eq_tup_nil (xs : List Int) : eqD (.tup (I xs)) (.tup []) = some (decide (xs = [])) := eq_tupI xs []
theorem pop_snoc {ys : List Int} {z : Int} {k : List D → D → Prop} : popK (some (some (.o (.lst (I (ys ++ [z])))))) k ↔ k (I ys) (.int z) := by
  have e : ∀ (l : List D) (h : l ≠ []), popK (some (some (.o (.lst l)))) k ↔ k l.dropLast (l.getLast h) := fun l h => by
    cases l with
    | nil => exact absurd rfl h
    | cons x xs => exact pop_
  rw [e _ (by simp [I])]
  simp [I]
theorem ints_of {P : Int → Prop} : ∀ {ds : List D}, (∀ d ∈ ds, ∃ x : Int, d = .int x ∧ P x) → ∃ xs : List Int, ds = I xs ∧ ∀ x ∈ xs, P x
  | [], _ => ⟨[], rfl, fun _ h => nomatch h⟩
  | d :: ds, h => by
    obtain ⟨x, rfl, hx⟩ := h d (List.mem_cons_self ..)
    obtain ⟨xs, rfl, hs⟩ := ints_of (fun d hd => h d (List.mem_cons_of_mem _ hd))
    exact ⟨x :: xs, rfl, fun y hy => (List.mem_cons.mp hy).elim (fun e => e ▸ hx) (hs y)⟩
/-- what is drawn lies where it should -/
def PkOk {τ : Type} (O : Pk τ) : Prop := ∀ t m, 1 ≤ m → 0 ≤ (O t m).1 ∧ (O t m).1 < m
theorem pick_at {τ : Type} {O : Pk τ} (hO : PkOk O) {ds : List D} (h : ds ≠ []) {t : τ} {k : D → Prop} (q : ∀ d ∈ ds, k d) : okK (L2.atI ds (O t (ds.length : Nat)).1) k := by
  have hl : 0 < ds.length := by cases ds with
    | nil => exact absurd rfl h
    | cons _ _ => simp
  obtain ⟨h1, h2⟩ := hO t (ds.length : Nat) (by omega)
  obtain ⟨j, hj⟩ : ∃ j : Nat, (O t (ds.length : Nat)).1 = (j : Int) := ⟨(O t (ds.length : Nat)).1.toNat, by omega⟩
  rw [hj] at h2 ⊢
  have hlt : j < ds.length := by omega
  rw [L2.atI_nat (List.getElem?_eq_getElem hlt), okK_some]
  exact q _ (List.getElem_mem hlt)
theorem repr_k {d : D} {p : PyData} {k : R → Prop} (h : d.toP = some p) (hn : nums p = true) (hz : nodes p ≤ 8000) (hd : p.depth ≤ 60) (q : k (.v (.str p.shown))) : okK (b1D .repr d) k := by
  rw [b1_repr h hn hz hd, okK_some]
  exact q
abbrev TP (xs : List Int) : PyData := .tuple (xs.map .int)
abbrev LP (xs : List Int) : PyData := .list (xs.map .int)
theorem toP_T (xs : List Int) : (D.tup (I xs)).toP = some (TP xs) := by simp only [D.toP, toPs_I, Option.map_some]
theorem toP_L (xs : List Int) : (D.lst (I xs)).toP = some (LP xs) := by simp only [D.toP, toPs_I, Option.map_some]
theorem nums_T {xs : List Int} (h : ∀ x ∈ xs, x.natAbs.log2 < 1920) : nums (TP xs) = true := by simp only [TP, nums, nums_I xs h]
theorem nodes_T (xs : List Int) : nodes (TP xs) = xs.length + 1 := by simp only [TP, nodes, nodes_I]
theorem depth_T (xs : List Int) : (TP xs).depth = 1 := by simp only [TP, depth, depth_I]
theorem small_log {x : Int} {e : Nat} (h : x.natAbs < 2 ^ e) (he : e < 1920) : x.natAbs.log2 < 1920 := by
  have := log2_le h
  omega
theorem pairs_zip (f : Int → Int → Int) (g : D → D) (hg : ∀ x y, g (.tup [.int x, .int y]) = .int (f x y)) : ∀ u v : List Int, (pairs (I u) (I v)).map g = I (List.zipWith f u v)
  | [], v => rfl
  | x :: u, [] => rfl
  | x :: u, y :: v => by
    show g (.tup [.int x, .int y]) :: (pairs (I u) (I v)).map g = _
    rw [hg, pairs_zip f g hg u v]
    rfl
end PyI

set_option Elab.async false
set_option linter.all false
set_option maxRecDepth 100000
set_option maxHeartbeats 4000000
namespace PyI
open PySem PySem.Spec PyProof.Rows L2
def topS (i : Nat) : Stmt := PySem.Challenge.pw_webvalues_k31_drawn_forms_through_tables.main.body.getD i (.Pass ⟨0, 0, 0, 0⟩)
abbrev sInit : Stmt := topS 22
abbrev sPick : Stmt := topS 23
theorem scP : FnScope ["source", "most", "cells", "others", "lap", "stirred"] ["source", "most"] (defScope sPick) := fs_of (by decide +kernel)
theorem scI : FnScope ["script", "stirred", "cell", "cells"] ["script"] (defScope sInit) := fs_of (by decide +kernel)
def blkB (N : List Str) (sc scope : Scope) (own : List (Str × Nat)) : Bool := decide (scope.kind = .function) && scope.names.all (fun y => decide (scope.names.lookup y.1 = some y.2)) && own.all (fun p => decide (N[p.2]? = some p.1)) && scope.names.all (fun y => decide (y.2 ≠ .free)) && scope.names.all (fun y => !(decide (y.2 = .local) || decide (y.2 = .cell)) || decide (y.1 ∈ own.map (·.1)) || decide (y.1 ∉ N))
theorem blk_of {N : List Str} {sc scope : Scope} {own : List (Str × Nat)} (h : blkB N sc scope own = true) : BlkOk N sc scope own := by
  unfold blkB at h
  simp only [Bool.and_eq_true, decide_eq_true_eq, List.all_eq_true, Bool.or_eq_true, Bool.not_eq_true', Bool.or_eq_false_iff, decide_eq_false_iff_not] at h
  obtain ⟨⟨⟨⟨h1, h2⟩, h3⟩, h4⟩, h5⟩ := h
  refine ⟨h1, h2, h3, fun y hy e => absurd e (h4 y hy), fun y hy e => ?_⟩
  rcases h5 y hy with (z | z) | z
  · exact absurd e (fun e => e.elim z.1 z.2)
  · exact .inl z
  · exact .inr z
section
variable {P : Program} {w : World} {K : PySem.W.Frag} {mg : Str → Option Value} {base : Heap}
theorem ok_pick {f : Addr} {fd : FuncData} {g1 g2 : Addr} (F : Fun K "_law_pick" "_law_pick" sPick f fd) (ml : mg "len" = none) (mi : mg "int" = none) : FnG P w K mg base 1 f fd ["source", "most"] (spP (sr2 g1 g2) K pick2) := by
  refine okG F scP (fun vs H Q E h => ?_) fun cdv A outer s H vs Q E hg hr h => ?_
  · obtain ⟨I, t, m, rfl, _⟩ := h
    rfl
  · obtain ⟨I, t, m, rfl, hm, hs, p⟩ := h
    have hu : (A.deeper (envOfC "_law_pick" (defScope sPick) s.heap.objs.size f cdv)).units + 1 < cLine := by have := hr.un; omega
    have lt2 : ∀ {i : Expr}, behindInMarks .Lt i = false := fun {i} => nobehind _ (by decide) (by decide)
    have gt2 : ∀ {i : Expr}, behindInMarks .Gt i = false := fun {i} => nobehind _ (by decide) (by decide)
    refine wS.of (t := tPick2 K) ?_ (pick2_run hs hm p)
    have ga : ∀ (k : Str) {j p q}, PE (cxOf CX0 P w K mg base ["source", "most", "cells", "others", "lap", "stirred"] "_law_pick" (defScope sPick) f cdv A outer s H E).nox (.Subscript (.Name "source" p) (.Constant (.str k) j p) q) (gS k) := fun k => pe_dget hu (pv 0) pe_str fun _ _ => rfl
    exact pss_cons (ps_if (pt_cmpR op_lt (pv 1) pe_int lt2) (pss_one (ps_ret pe_int)) pss_nil) <|
      pss_cons (ps_set (i := 2) scP.nd rfl (.inl rfl) (pe_dget hu (pv 0) pe_str fun _ _ => rfl)) <|
      pss_cons (ps_while PassesOwn.never (PW.pt (pw_and (pt_cmpR op_lt (pe_dget hu (pv 0) pe_str fun _ _ => rfl) pe_int lt2) (pw_and1 (pt_cmpR op_gt (pe_callB call_len rfl ml boot_len (pa_cons (pv 2) pa_nil)) pe_int gt2))))
        (pss_one (ps_dput hu (pv 0) pe_str (pe_bm0 PySem.F.plainAttrs_list PySem.F.slot_list_pop PySem.F.type_list_pop mt_pop (pv 2)) rfl))) <|
      pss_cons (ps_set (i := 3) scP.nd rfl (.inl rfl) (pe_dget hu (pv 0) pe_str fun _ _ => rfl)) <|
      pss_cons (ps_if (pt_cmpR op_gt (pv 3) pe_int gt2) (pss_cons (ps_dput hu (pv 0) pe_str (pe_op op_fdivN (pv 3) (pv 1)) rfl) (pss_one (ps_ret (pe_op op_modN (pe_callTy call_int1 rfl mi boot_int (pa_cons (pv 3) pa_nil)) (pv 1))))) pss_nil) <|
      pss_cons (ps_dput hu (pv 0) pe_str (pe_op op_add (pe_dget hu (pv 0) pe_str fun _ _ => rfl) pe_int) rfl) <|
      pss_cons (ps_set (i := 4) scP.nd rfl (.inl rfl) (pe_dget hu (pv 0) pe_str fun _ _ => rfl)) <|
      pss_cons (ps_set (i := 5) scP.nd rfl (.inl rfl) (pe_op op_modN (pe_callTy call_int1 rfl mi boot_int (pa_cons (pe_op op_add (pe_dget hu (pv 0) pe_str fun _ _ => rfl) (pe_op op_mul (pv 4) pe_int)) pa_nil)) pe_int)) <|
      pss_cons (ps_set (i := 5) scP.nd rfl (.inl rfl) (pe_op op_modN (pe_callTy call_int1 rfl mi boot_int (pa_cons (pe_op op_add (pe_op op_mul (pv 5) (pv 5)) (pe_op op_mul (pv 4) pe_int)) pa_nil)) pe_int)) <|
      pss_one (ps_ret (pe_op op_modN (pe_callTy call_int1 rfl mi boot_int (pa_cons (pe_op op_fdivN (pv 5) pe_int) pa_nil)) (pv 1)))
theorem ok_init {f : Addr} {fd : FuncData} (F : Fun K "_law_open_cells" "_law_open_cells" sInit f fd) (ma : mg "abs" = none) (mi : mg "int" = none) : FnG P w K mg base 1 f fd ["script"] (spI sr2 K) := by
  refine okG F scI (fun vs H Q E h => ?_) fun cdv A outer s H vs Q E hg hr h => ?_
  · obtain ⟨l, ns, rfl, _⟩ := h
    rfl
  · refine wS.of (t := tInit2 K) ?_ (init2_run h)
    exact pss_cons (ps_set (i := 1) scI.nd rfl (.inl rfl) pe_int) <|
      pss_cons (ps_for PassesOwn.never rfl (pi_list (pv 0)) (pg_name (i := 2) scI.nd rfl (.inl rfl)) (pss_one (ps_set (i := 1) scI.nd rfl (.inl rfl)
        (pe_op op_modN (pe_callTy call_int1 rfl mi boot_int (pa_cons (pe_op op_add (pe_op op_add (pe_op op_mul (pv 1) pe_int) (pe_op op_mul (pv 2) pe_int)) pe_int) pa_nil)) pe_int)))) <|
      pss_cons (ps_setLc (i := 3) (own := [("cell", 2)]) rfl scI.nd rfl rfl rfl (pi_list (pv 0)) (blk_of (N := ["script", "stirred", "cell", "cells"]) (sc := defScope sInit) (by decide +kernel)) (fun _ _ _ _ _ => pg_name (i := 2) scI.nd rfl (.inl rfl)) (fun _ _ _ _ _ => pts_nil)
        (fun _ _ _ _ _ => pe_callB call_abs rfl ma boot_abs (pa_cons (pv 2) pa_nil))) <|
      pss_one (ps_ret (pe_disp (pps_cons pe_str (pe_revL (pv 3)) (pps_cons pe_str pe_int (pps_cons pe_str (pv 1) (pps_cons pe_str pe_int pps_nil)))) rfl rfl (by simp) (by decide)))
end
end PyI

set_option Elab.async false
set_option linter.all false
set_option maxRecDepth 100000
set_option maxHeartbeats 4000000
namespace PyI
open PySem PySem.Spec PyProof.Rows L2
abbrev i_is_integer : Nat := 0
def n_is_integer : List Str := ["value"]
def b_is_integer : S := .ret [] (.and_ (.isin (.var 0) .int) (.nt (.isin (.var 0) .bool)))
def f_is_integer : Fn := ⟨1, 1, b_is_integer⟩
def pf_is_integer : PF := ⟨"is_integer", "is_integer", topS 2, n_is_integer, ["value"], f_is_integer⟩
abbrev i_fraction_of : Nat := 1
def n_fraction_of : List Str := ["p", "q", "by"]
def b_fraction_of : S := .seq (.asg [] (.var 2) (.ife (.cmp .gt (.var 1) (.int 0)) (.b2 .gcd (.var 0) (.var 1)) (.neg (.b2 .gcd (.var 0) (.var 1))))) (.ret [] (.tup (.cons (.bin .fdiv (.var 0) (.var 2)) (.cons (.bin .fdiv (.var 1) (.var 2)) (.nil)))))
def f_fraction_of : Fn := ⟨2, 3, b_fraction_of⟩
def pf_fraction_of : PF := ⟨"fraction_of", "fraction_of", topS 3, n_fraction_of, ["p", "q"], f_fraction_of⟩
abbrev i_fraction_sum : Nat := 2
def n_fraction_sum : List Str := ["a", "b"]
def b_fraction_sum : S := .ret [] (.call 1 (.cons (.bin .add (.bin .mul (.ix (.var 0) (.int 0)) (.ix (.var 1) (.int 1))) (.bin .mul (.ix (.var 1) (.int 0)) (.ix (.var 0) (.int 1)))) (.cons (.bin .mul (.ix (.var 0) (.int 1)) (.ix (.var 1) (.int 1))) (.nil))))
def f_fraction_sum : Fn := ⟨2, 2, b_fraction_sum⟩
def pf_fraction_sum : PF := ⟨"fraction_sum", "fraction_sum", topS 4, n_fraction_sum, ["a", "b"], f_fraction_sum⟩
abbrev i_fraction_less : Nat := 3
def n_fraction_less : List Str := ["a", "b"]
def b_fraction_less : S := .ret [] (.call 1 (.cons (.bin .sub (.bin .mul (.ix (.var 0) (.int 0)) (.ix (.var 1) (.int 1))) (.bin .mul (.ix (.var 1) (.int 0)) (.ix (.var 0) (.int 1)))) (.cons (.bin .mul (.ix (.var 0) (.int 1)) (.ix (.var 1) (.int 1))) (.nil))))
def f_fraction_less : Fn := ⟨2, 2, b_fraction_less⟩
def pf_fraction_less : PF := ⟨"fraction_less", "fraction_less", topS 5, n_fraction_less, ["a", "b"], f_fraction_less⟩
abbrev i_fraction_times : Nat := 4
def n_fraction_times : List Str := ["a", "b"]
def b_fraction_times : S := .ret [] (.call 1 (.cons (.bin .mul (.ix (.var 0) (.int 0)) (.ix (.var 1) (.int 0))) (.cons (.bin .mul (.ix (.var 0) (.int 1)) (.ix (.var 1) (.int 1))) (.nil))))
def f_fraction_times : Fn := ⟨2, 2, b_fraction_times⟩
def pf_fraction_times : PF := ⟨"fraction_times", "fraction_times", topS 6, n_fraction_times, ["a", "b"], f_fraction_times⟩
abbrev i_choose : Nat := 5
def n_choose : List Str := ["n", "k", "found", "i"]
def b_choose : S := .seq (.asg [] (.var 2) (.int 1)) (.seq (.fr [] (.var 3) (.rng1 (.var 1)) (.asg [] (.var 2) (.bin .fdiv (.bin .mul (.var 2) (.bin .sub (.var 0) (.var 3))) (.bin .add (.var 3) (.int 1))))) (.ret [] (.var 2)))
def f_choose : Fn := ⟨2, 4, b_choose⟩
def pf_choose : PF := ⟨"choose", "choose", topS 8, n_choose, ["n", "k"], f_choose⟩
abbrev i_is_row : Nat := 6
def n_is_row : List Str := ["value", "c"]
def b_is_row : S := .seq (.ifs [0] (.or_ (.nt (.isin (.var 0) .tup)) (.nt (.b1 .all (.comp [1] (.call 0 (.cons (.var 1) (.nil))) (.var 1) (.var 0) (.bl true))))) (.ret [] (.bl false)) (.pas)) (.ret [] (.or_ (.cmp .eq (.var 0) (.tup (.nil))) (.cmp .ne (.ix (.var 0) (.neg (.int 1))) (.int 0))))
def f_is_row : Fn := ⟨1, 2, b_is_row⟩
def pf_is_row : PF := ⟨"is_row", "is_row", topS 9, n_is_row, ["value"], f_is_row⟩
abbrev i_row_of : Nat := 7
def n_row_of : List Str := ["some", "many"]
def b_row_of : S := .seq (.asg [] (.var 1) (.b1 .len (.var 0))) (.seq (.whl [] (.and_ (.cmp .gt (.var 1) (.int 0)) (.cmp .eq (.ix (.var 0) (.bin .sub (.var 1) (.int 1))) (.int 0))) (.asg [] (.var 1) (.bin .sub (.var 1) (.int 1)))) (.ret [] (.b1 .tuple (.slc (.var 0) (.non) (.var 1)))))
def f_row_of : Fn := ⟨1, 2, b_row_of⟩
def pf_row_of : PF := ⟨"row_of", "row_of", topS 10, n_row_of, ["some"], f_row_of⟩
abbrev i_both_of : Nat := 8
def n_both_of : List Str := ["a", "b", "k"]
def b_both_of : S := .ret [] (.comp [2] (.tup (.cons (.ife (.cmp .lt (.var 2) (.b1 .len (.var 0))) (.ix (.var 0) (.var 2)) (.int 0)) (.cons (.ife (.cmp .lt (.var 2) (.b1 .len (.var 1))) (.ix (.var 1) (.var 2)) (.int 0)) (.nil)))) (.var 2) (.rng1 (.b2 .max (.b1 .len (.var 0)) (.b1 .len (.var 1)))) (.bl true))
def f_both_of : Fn := ⟨2, 3, b_both_of⟩
def pf_both_of : PF := ⟨"both_of", "both_of", topS 11, n_both_of, ["a", "b"], f_both_of⟩
abbrev i_row_sum : Nat := 9
def n_row_sum : List Str := ["a", "b", "x", "y"]
def b_row_sum : S := .ret [0, 1] (.call 7 (.cons (.comp [2, 3] (.bin .add (.var 2) (.var 3)) (.tup (.cons (.var 2) (.cons (.var 3) (.nil)))) (.call 8 (.cons (.var 0) (.cons (.var 1) (.nil)))) (.bl true)) (.nil)))
def f_row_sum : Fn := ⟨2, 4, b_row_sum⟩
def pf_row_sum : PF := ⟨"row_sum", "row_sum", topS 12, n_row_sum, ["a", "b"], f_row_sum⟩
abbrev i_row_at : Nat := 10
def n_row_at : List Str := ["row", "n", "k", "c"]
def b_row_at : S := .ret [0, 1] (.b1 .sum (.comp [2, 3] (.bin .mul (.var 3) (.call 5 (.cons (.var 1) (.cons (.var 2) (.nil))))) (.tup (.cons (.var 2) (.cons (.var 3) (.nil)))) (.enm (.var 0)) (.bl true)))
def f_row_at : Fn := ⟨2, 4, b_row_at⟩
def pf_row_at : PF := ⟨"row_at", "row_at", topS 13, n_row_at, ["row", "n"], f_row_at⟩
abbrev i_drawn_of : Nat := 11
def n_drawn_of : List Str := ["pairs", "found", "e", "row"]
def b_drawn_of : S := .seq (.asg [] (.var 1) (.dnil)) (.seq (.fr [0] (.tup (.cons (.var 2) (.cons (.var 3) (.nil)))) (.var 0) (.sto [3] 1 (.var 2) (.call 9 (.cons (.get (.var 1) (.var 2) (.tup (.nil))) (.cons (.var 3) (.nil)))))) (.ret [] (.b1 .tuple (.comp [2] (.tup (.cons (.var 2) (.cons (.ix (.var 1) (.var 2)) (.nil)))) (.var 2) (.b1 .sorted (.var 1)) (.cmp .ne (.ix (.var 1) (.var 2)) (.tup (.nil)))))))
def f_drawn_of : Fn := ⟨1, 4, b_drawn_of⟩
def pf_drawn_of : PF := ⟨"drawn_of", "drawn_of", topS 15, n_drawn_of, ["pairs"], f_drawn_of⟩
abbrev i_is_drawn : Nat := 12
def n_is_drawn : List Str := ["value", "one", "late", "pair", "e", "row"]
def b_is_drawn : S := .seq (.ifs [0] (.or_ (.nt (.isin (.var 0) .tup)) (.nt (.b1 .all (.comp [3] (.and_ (.isin (.var 3) .tup) (.cmp .eq (.b1 .len (.var 3)) (.int 2))) (.var 3) (.var 0) (.bl true))))) (.ret [] (.bl false)) (.pas)) (.seq (.ifs [0] (.nt (.b1 .all (.comp [4, 5] (.and_ (.call 0 (.cons (.var 4) (.nil))) (.and_ (.cmp .ge (.var 4) (.int 0)) (.and_ (.call 6 (.cons (.var 5) (.nil))) (.cmp .ne (.var 5) (.tup (.nil)))))) (.tup (.cons (.var 4) (.cons (.var 5) (.nil)))) (.var 0) (.bl true)))) (.ret [] (.bl false)) (.pas)) (.ret [0] (.b1 .all (.comp [1, 2] (.cmp .lt (.ix (.var 1) (.int 0)) (.ix (.var 2) (.int 0))) (.tup (.cons (.var 1) (.cons (.var 2) (.nil)))) (.zp (.var 0) (.slc (.var 0) (.int 1) (.non))) (.bl true)))))
def f_is_drawn : Fn := ⟨1, 6, b_is_drawn⟩
def pf_is_drawn : PF := ⟨"is_drawn", "is_drawn", topS 16, n_is_drawn, ["value"], f_is_drawn⟩
abbrev i_drawn_at : Nat := 13
def n_drawn_at : List Str := ["drawn", "n", "t", "found", "power", "at", "e", "row"]
def b_drawn_at : S := .seq (.par3 [] 3 4 5 (.tup (.cons (.int 0) (.cons (.int 1) (.nil)))) (.tup (.cons (.int 1) (.cons (.int 1) (.nil)))) (.int 0)) (.seq (.fr [0] (.tup (.cons (.var 6) (.cons (.var 7) (.nil)))) (.var 0) (.seq (.whl [] (.cmp .lt (.var 5) (.var 6)) (.par [2, 4] 4 5 (.call 4 (.cons (.var 4) (.cons (.var 2) (.nil)))) (.bin .add (.var 5) (.int 1)))) (.asg [1, 3, 4, 7] (.var 3) (.call 2 (.cons (.var 3) (.cons (.call 4 (.cons (.var 4) (.cons (.tup (.cons (.call 10 (.cons (.var 7) (.cons (.var 1) (.nil)))) (.cons (.int 1) (.nil)))) (.nil)))) (.nil))))))) (.ret [] (.var 3)))
def f_drawn_at : Fn := ⟨3, 8, b_drawn_at⟩
def pf_drawn_at : PF := ⟨"drawn_at", "drawn_at", topS 17, n_drawn_at, ["drawn", "n", "t"], f_drawn_at⟩
abbrev i_steps_of : Nat := 14
def n_steps_of : List Str := ["numbers", "found", "left", "early", "late"]
def b_steps_of : S := .seq (.par [] 1 2 (.lst (.nil)) (.b1 .list (.var 0))) (.seq (.whl [] (.cmp .ne (.var 2) (.lst (.nil))) (.seq (.app [] 1 (.ix (.var 2) (.int 0))) (.asg [2] (.var 2) (.comp [3, 4] (.call 3 (.cons (.var 4) (.cons (.var 3) (.nil)))) (.tup (.cons (.var 3) (.cons (.var 4) (.nil)))) (.zp (.var 2) (.slc (.var 2) (.int 1) (.non))) (.bl true))))) (.ret [] (.var 1)))
def f_steps_of : Fn := ⟨1, 5, b_steps_of⟩
def pf_steps_of : PF := ⟨"steps_of", "steps_of", topS 18, n_steps_of, ["numbers"], f_steps_of⟩
abbrev i_powers_through : Nat := 15
def n_powers_through : List Str := ["numbers", "found", "power", "k", "step", "late", "i", "c"]
def b_powers_through : S := .seq (.par [] 1 2 (.bin .mul (.lst (.cons (.tup (.cons (.int 0) (.cons (.int 1) (.nil)))) (.nil))) (.b1 .len (.var 0))) (.lst (.cons (.tup (.cons (.int 1) (.cons (.int 1) (.nil)))) (.nil)))) (.seq (.fr [0] (.tup (.cons (.var 3) (.cons (.var 4) (.nil)))) (.enm (.call 14 (.cons (.var 0) (.nil)))) (.seq (.asg [1, 4] (.var 1) (.comp [6, 7] (.ife (.cmp .lt (.var 6) (.b1 .len (.var 2))) (.call 2 (.cons (.var 7) (.cons (.call 4 (.cons (.var 4) (.cons (.ix (.var 2) (.var 6)) (.nil)))) (.nil)))) (.var 7)) (.tup (.cons (.var 6) (.cons (.var 7) (.nil)))) (.enm (.var 1)) (.bl true))) (.seq (.asg [] (.var 5) (.lst (.cons (.tup (.cons (.int 0) (.cons (.int 1) (.nil)))) (.scons (.var 2) (.nil))))) (.seq (.fr [2] (.tup (.cons (.var 6) (.cons (.var 7) (.nil)))) (.enm (.var 2)) (.sto [7] 5 (.var 6) (.call 3 (.cons (.ix (.var 5) (.var 6)) (.cons (.call 4 (.cons (.tup (.cons (.bin .add (.var 3) (.int 1)) (.cons (.int 1) (.nil)))) (.cons (.var 7) (.nil)))) (.nil)))))) (.asg [5] (.var 2) (.comp [7] (.call 4 (.cons (.var 7) (.cons (.call 1 (.cons (.int 1) (.cons (.bin .add (.var 3) (.int 1)) (.nil)))) (.nil)))) (.var 7) (.var 5) (.bl true))))))) (.ret [] (.var 1)))
def f_powers_through : Fn := ⟨1, 8, b_powers_through⟩
def pf_powers_through : PF := ⟨"powers_through", "powers_through", topS 19, n_powers_through, ["numbers"], f_powers_through⟩
abbrev i_drawn_through : Nat := 16
def n_drawn_through : List Str := ["table", "lines", "found", "e", "row", "line", "c"]
def b_drawn_through : S := .seq (.asg [0] (.var 1) (.comp [5] (.call 15 (.cons (.var 5) (.nil))) (.var 5) (.var 0) (.bl true))) (.seq (.asg [] (.var 2) (.lst (.nil))) (.seq (.fr [] (.var 3) (.rng1 (.ife (.cmp .ne (.var 1) (.lst (.nil))) (.b1 .len (.ix (.var 1) (.int 0))) (.int 0))) (.seq (.asg [1] (.var 4) (.call 14 (.cons (.comp [5] (.ix (.var 5) (.var 3)) (.var 5) (.var 1) (.bl true)) (.nil)))) (.seq (.ifs [4] (.nt (.b1 .all (.comp [6] (.cmp .eq (.ix (.var 6) (.int 1)) (.int 1)) (.var 6) (.var 4) (.bl true)))) (.ret [] (.non)) (.pas)) (.app [3, 4] 2 (.tup (.cons (.var 3) (.cons (.call 7 (.cons (.comp [6] (.ix (.var 6) (.int 0)) (.var 6) (.var 4) (.bl true)) (.nil))) (.nil)))))))) (.ret [2] (.call 11 (.cons (.var 2) (.nil))))))
def f_drawn_through : Fn := ⟨1, 7, b_drawn_through⟩
def pf_drawn_through : PF := ⟨"drawn_through", "drawn_through", topS 20, n_drawn_through, ["table"], f_drawn_through⟩
abbrev i__law_of : Nat := 17
def n__law_of : List Str := ["source", "some"]
def b__law_of : S := .ret [0] (.ix (.var 1) (.pick (.var 0) (.b1 .len (.var 1))))
def f__law_of : Fn := ⟨2, 2, b__law_of⟩
def pf__law_of : PF := ⟨"_law_of", "_law_of", topS 24, n__law_of, ["source", "some"], f__law_of⟩
abbrev i__law_fraction : Nat := 18
def n__law_fraction : List Str := ["p", "q", "a", "b"]
def b__law_fraction : S := .seq (.par [] 2 3 (.b1 .abs (.var 0)) (.b1 .abs (.var 1))) (.seq (.whl [] (.cmp .gt (.var 3) (.int 0)) (.par [3] 2 3 (.var 3) (.bin .mod (.b1 .int (.var 2)) (.var 3)))) (.seq (.asg [2] (.var 2) (.ife (.cmp .gt (.var 1) (.int 0)) (.var 2) (.bin .sub (.int 0) (.var 2)))) (.ret [] (.tup (.cons (.bin .fdiv (.var 0) (.var 2)) (.cons (.bin .fdiv (.var 1) (.var 2)) (.nil)))))))
def f__law_fraction : Fn := ⟨2, 4, b__law_fraction⟩
def pf__law_fraction : PF := ⟨"_law_fraction", "_law_fraction", topS 25, n__law_fraction, ["p", "q"], f__law_fraction⟩
abbrev i__law_over : Nat := 19
def n__law_over : List Str := ["n", "k", "i", "top", "bottom"]
def b__law_over : S := .seq (.par [] 3 4 (.int 1) (.int 1)) (.seq (.fr [] (.var 2) (.rng1 (.var 1)) (.par [] 3 4 (.bin .mul (.var 3) (.bin .sub (.var 0) (.var 2))) (.bin .mul (.var 4) (.bin .add (.var 2) (.int 1))))) (.ret [] (.bin .fdiv (.var 3) (.var 4))))
def f__law_over : Fn := ⟨2, 5, b__law_over⟩
def pf__law_over : PF := ⟨"_law_over", "_law_over", topS 26, n__law_over, ["n", "k"], f__law_over⟩
abbrev i__law_at : Nat := 20
def n__law_at : List Str := ["row", "n", "k", "c"]
def b__law_at : S := .ret [0, 1] (.b1 .sum (.comp [2, 3] (.bin .mul (.var 3) (.call 19 (.cons (.var 1) (.cons (.var 2) (.nil))))) (.tup (.cons (.var 2) (.cons (.var 3) (.nil)))) (.enm (.var 0)) (.bl true)))
def f__law_at : Fn := ⟨2, 4, b__law_at⟩
def pf__law_at : PF := ⟨"_law_at", "_law_at", topS 27, n__law_at, ["row", "n"], f__law_at⟩
abbrev i__law_row : Nat := 21
def n__law_row : List Str := ["source", "many", "found", "k"]
def b__law_row : S := .seq (.asg [0] (.var 2) (.comp [3] (.call 17 (.cons (.var 0) (.cons (.lst (.cons (.int 0) (.cons (.int 0) (.cons (.int 1) (.cons (.neg (.int 1)) (.cons (.int 2) (.cons (.neg (.int 3)) (.cons (.int 40) (.cons (.bin .pow (.int 10) (.int 30)) (.nil)))))))))) (.nil)))) (.var 3) (.rng1 (.pick (.var 0) (.bin .add (.var 1) (.int 1)))) (.bl true))) (.seq (.whl [] (.and_ (.cmp .ne (.var 2) (.lst (.nil))) (.cmp .eq (.ix (.var 2) (.neg (.int 1))) (.int 0))) (.pop none 2)) (.ret [] (.b1 .tuple (.var 2))))
def f__law_row : Fn := ⟨2, 4, b__law_row⟩
def pf__law_row : PF := ⟨"_law_row", "_law_row", topS 28, n__law_row, ["source", "many"], f__law_row⟩
abbrev i__law_drawn : Nat := 22
def n__law_drawn : List Str := ["source", "powers", "many", "found", "turn", "row", "e"]
def b__law_drawn : S := .seq (.asg [] (.var 3) (.dnil)) (.seq (.fr [0] (.var 4) (.rng1 (.pick (.var 0) (.int 4))) (.seq (.asg [0, 2] (.var 5) (.call 21 (.cons (.var 0) (.cons (.var 2) (.nil))))) (.ifs [] (.cmp .ne (.var 5) (.tup (.nil))) (.sto [0, 5] 3 (.pick (.var 0) (.var 1)) (.var 5)) (.pas)))) (.ret [] (.b1 .tuple (.comp [6] (.tup (.cons (.var 6) (.cons (.ix (.var 3) (.var 6)) (.nil)))) (.var 6) (.b1 .sorted (.var 3)) (.bl true)))))
def f__law_drawn : Fn := ⟨3, 7, b__law_drawn⟩
def pf__law_drawn : PF := ⟨"_law_drawn", "_law_drawn", topS 29, n__law_drawn, ["source", "powers", "many"], f__law_drawn⟩
abbrev i__law_drawn_at : Nat := 23
def n__law_drawn_at : List Str := ["drawn", "n", "t", "wide", "turn", "total", "bottom", "e", "row", "part"]
def b__law_drawn_at : S := .seq (.asg [0] (.var 3) (.b1 .max (.bin .add (.comp [7, 8] (.var 7) (.tup (.cons (.var 7) (.cons (.var 8) (.nil)))) (.var 0) (.bl true)) (.lst (.cons (.int 0) (.nil)))))) (.seq (.par [] 5 6 (.int 0) (.int 1)) (.seq (.fr [] (.var 4) (.rng1 (.var 3)) (.asg [] (.var 6) (.bin .mul (.var 6) (.ix (.var 2) (.int 1))))) (.seq (.fr [0] (.tup (.cons (.var 7) (.cons (.var 8) (.nil)))) (.var 0) (.seq (.asg [1, 8] (.var 9) (.call 20 (.cons (.var 8) (.cons (.var 1) (.nil))))) (.seq (.fr [] (.var 4) (.rng1 (.var 3)) (.asg [] (.var 9) (.bin .mul (.var 9) (.ife (.cmp .lt (.var 4) (.var 7)) (.ix (.var 2) (.int 0)) (.ix (.var 2) (.int 1)))))) (.asg [] (.var 5) (.bin .add (.var 5) (.var 9)))))) (.ret [5, 6] (.call 18 (.cons (.var 5) (.cons (.var 6) (.nil))))))))
def f__law_drawn_at : Fn := ⟨3, 10, b__law_drawn_at⟩
def pf__law_drawn_at : PF := ⟨"_law_drawn_at", "_law_drawn_at", topS 30, n__law_drawn_at, ["drawn", "n", "t"], f__law_drawn_at⟩
abbrev i__law_solved : Nat := 24
def n__law_solved : List Str := ["many", "worths", "rows", "t", "i", "e", "by", "k", "line", "power", "x", "c", "late", "y"]
def b__law_solved : S := .seq (.asg [] (.var 2) (.lst (.nil))) (.seq (.fr [] (.var 3) (.rng2 (.int 1) (.bin .add (.var 0) (.int 1))) (.seq (.par [] 8 9 (.lst (.nil)) (.int 1)) (.seq (.fr [] (.var 5) (.rng1 (.var 0)) (.par [9] 8 9 (.bin .add (.var 8) (.lst (.cons (.tup (.cons (.var 9) (.cons (.int 1) (.nil)))) (.nil)))) (.bin .mul (.var 9) (.var 3)))) (.app [] 2 (.bin .add (.var 8) (.lst (.cons (.ix (.var 1) (.bin .sub (.var 3) (.int 1))) (.nil)))))))) (.seq (.fr [] (.var 4) (.rng1 (.var 0)) (.seq (.asg [] (.var 6) (.ix (.ix (.var 2) (.var 4)) (.var 4))) (.seq (.sto [] 2 (.var 4) (.comp [10] (.call 18 (.cons (.bin .mul (.ix (.var 10) (.int 0)) (.ix (.var 6) (.int 1))) (.cons (.bin .mul (.ix (.var 10) (.int 1)) (.ix (.var 6) (.int 0))) (.nil)))) (.var 10) (.ix (.var 2) (.var 4)) (.bl true))) (.fr [] (.var 7) (.rng1 (.var 0)) (.ifs [] (.cmp .ne (.var 7) (.var 4)) (.seq (.par [] 11 12 (.ix (.ix (.var 2) (.var 7)) (.var 4)) (.lst (.nil))) (.seq (.fr [] (.tup (.cons (.var 10) (.cons (.var 13) (.nil)))) (.zp (.ix (.var 2) (.var 7)) (.ix (.var 2) (.var 4))) (.app [] 12 (.call 18 (.cons (.bin .sub (.bin .mul (.bin .mul (.ix (.var 10) (.int 0)) (.ix (.var 11) (.int 1))) (.ix (.var 13) (.int 1))) (.bin .mul (.bin .mul (.ix (.var 11) (.int 0)) (.ix (.var 13) (.int 0))) (.ix (.var 10) (.int 1)))) (.cons (.bin .mul (.bin .mul (.ix (.var 10) (.int 1)) (.ix (.var 11) (.int 1))) (.ix (.var 13) (.int 1))) (.nil)))))) (.sto [12] 2 (.var 7) (.var 12)))) (.pas)))))) (.ret [2] (.comp [8] (.ix (.var 8) (.neg (.int 1))) (.var 8) (.var 2) (.bl true)))))
def f__law_solved : Fn := ⟨2, 14, b__law_solved⟩
def pf__law_solved : PF := ⟨"_law_solved", "_law_solved", topS 31, n__law_solved, ["many", "worths"], f__law_solved⟩
abbrev i__law_is_whole : Nat := 25
def n__law_is_whole : List Str := ["table", "lines", "e", "left", "line", "x", "y"]
def b__law_is_whole : S := .seq (.asg [0] (.var 1) (.comp [4] (.call 24 (.cons (.b1 .len (.var 4)) (.cons (.var 4) (.nil)))) (.var 4) (.var 0) (.bl true))) (.seq (.fr [] (.var 2) (.rng1 (.b1 .len (.ix (.var 1) (.int 0)))) (.seq (.asg [1] (.var 3) (.comp [4] (.ix (.var 4) (.var 2)) (.var 4) (.var 1) (.bl true))) (.whl [] (.cmp .ne (.var 3) (.lst (.nil))) (.seq (.ifs [] (.cmp .ne (.ix (.ix (.var 3) (.int 0)) (.int 1)) (.int 1)) (.ret [] (.bl false)) (.pas)) (.asg [3] (.var 3) (.comp [5, 6] (.call 18 (.cons (.bin .sub (.bin .mul (.ix (.var 6) (.int 0)) (.ix (.var 5) (.int 1))) (.bin .mul (.ix (.var 5) (.int 0)) (.ix (.var 6) (.int 1)))) (.cons (.bin .mul (.ix (.var 5) (.int 1)) (.ix (.var 6) (.int 1))) (.nil)))) (.tup (.cons (.var 5) (.cons (.var 6) (.nil)))) (.zp (.var 3) (.slc (.var 3) (.int 1) (.non))) (.bl true))))))) (.ret [] (.bl true)))
def f__law_is_whole : Fn := ⟨1, 7, b__law_is_whole⟩
def pf__law_is_whole : PF := ⟨"_law_is_whole", "_law_is_whole", topS 32, n__law_is_whole, ["table"], f__law_is_whole⟩
def nms : List Str := ["is_integer", "fraction_of", "fraction_sum", "fraction_less", "fraction_times", "choose", "is_row", "row_of", "both_of", "row_sum", "row_at", "drawn_of", "is_drawn", "drawn_at", "steps_of", "powers_through", "drawn_through", "_law_of", "_law_fraction", "_law_over", "_law_at", "_law_row", "_law_drawn", "_law_drawn_at", "_law_solved", "_law_is_whole"]
def fns : List Fn := [f_is_integer, f_fraction_of, f_fraction_sum, f_fraction_less, f_fraction_times, f_choose, f_is_row, f_row_of, f_both_of, f_row_sum, f_row_at, f_drawn_of, f_is_drawn, f_drawn_at, f_steps_of, f_powers_through, f_drawn_through, f__law_of, f__law_fraction, f__law_over, f__law_at, f__law_row, f__law_drawn, f__law_drawn_at, f__law_solved, f__law_is_whole]
def nL : List Str := ["script", "source", "lap", "table", "some", "drawn", "wide", "long", "told", "kept", "n", "t", "e", "row"]
def bL : S := .seq (.fr [] (.var 2) (.rng1 (.int 2)) (.seq (.par3 [1] 5 6 7 (.call 22 (.cons (.var 1) (.cons (.int 4) (.cons (.int 3) (.nil))))) (.bin .add (.int 4) (.pick (.var 1) (.int 3))) (.bin .add (.int 3) (.pick (.var 1) (.int 2)))) (.seq (.asg [5] (.var 3) (.b1 .tuple (.comp [10] (.b1 .tuple (.comp [11] (.call 23 (.cons (.var 5) (.cons (.var 10) (.cons (.tup (.cons (.var 11) (.cons (.int 1) (.nil)))) (.nil))))) (.var 11) (.rng2 (.int 1) (.bin .add (.var 6) (.int 1))) (.bl true))) (.var 10) (.rng1 (.var 7)) (.bl true)))) (.seq (.ifs [3] (.cmp .ne (.b1 .repr (.call 16 (.cons (.var 3) (.nil)))) (.b1 .repr (.var 5))) (.ret [] (.bl false)) (.pas)) (.seq (.par [1] 6 7 (.bin .add (.int 1) (.pick (.var 1) (.int 3))) (.bin .add (.int 1) (.pick (.var 1) (.int 3)))) (.seq (.asg [1] (.var 4) (.lst (.cons (.tup (.cons (.int 0) (.cons (.int 1) (.nil)))) (.cons (.tup (.cons (.int 0) (.cons (.int 1) (.nil)))) (.cons (.tup (.cons (.int 2) (.cons (.int 1) (.nil)))) (.cons (.tup (.cons (.neg (.int 2)) (.cons (.int 1) (.nil)))) (.cons (.tup (.cons (.int 4) (.cons (.int 1) (.nil)))) (.cons (.tup (.cons (.int 6) (.cons (.int 1) (.nil)))) (.cons (.call 17 (.cons (.var 1) (.cons (.lst (.cons (.tup (.cons (.int 1) (.cons (.int 1) (.nil)))) (.cons (.tup (.cons (.int 1) (.cons (.int 2) (.nil)))) (.cons (.tup (.cons (.int 12) (.cons (.int 1) (.nil)))) (.nil))))) (.nil)))) (.nil)))))))))) (.seq (.asg [1, 4] (.var 3) (.b1 .tuple (.comp [10] (.b1 .tuple (.comp [11] (.call 17 (.cons (.var 1) (.cons (.var 4) (.nil)))) (.var 11) (.rng1 (.var 6)) (.bl true))) (.var 10) (.rng1 (.var 7)) (.bl true)))) (.seq (.par [3] 8 9 (.call 16 (.cons (.var 3) (.nil))) (.b1 .repr (.var 3))) (.seq (.ifs [3] (.or_ (.cmp .ne (.isc true (.var 8) none) (.call 25 (.cons (.var 3) (.nil)))) (.cmp .ne (.b1 .repr (.var 3)) (.var 9))) (.ret [] (.bl false)) (.pas)) (.ifs [] (.isc true (.var 8) none) (.seq (.ifs [8] (.or_ (.isc true (.call 12 (.cons (.var 8) (.nil))) (some true)) (.cmp .ge (.b1 .max (.bin .add (.comp [12, 13] (.var 12) (.tup (.cons (.var 12) (.cons (.var 13) (.nil)))) (.var 8) (.bl true)) (.lst (.cons (.int 0) (.nil))))) (.var 6))) (.ret [] (.bl false)) (.pas)) (.seq (.ifs [8] (.cmp .gt (.b1 .max (.bin .add (.comp [12, 13] (.b1 .len (.var 13)) (.tup (.cons (.var 12) (.cons (.var 13) (.nil)))) (.var 8) (.bl true)) (.lst (.cons (.int 0) (.nil))))) (.var 7)) (.ret [] (.bl false)) (.pas)) (.fr [] (.var 10) (.rng1 (.var 7)) (.ifs [8, 10] (.cmp .ne (.comp [11] (.call 13 (.cons (.var 8) (.cons (.var 10) (.cons (.tup (.cons (.var 11) (.cons (.int 1) (.nil)))) (.nil))))) (.var 11) (.rng2 (.int 1) (.bin .add (.var 6) (.int 1))) (.bl true)) (.b1 .list (.ix (.var 3) (.var 10)))) (.ret [] (.bl false)) (.pas))))) (.pas))))))))))) (.ret [] (.and_ (.isc false (.call 16 (.cons (.tup (.cons (.tup (.cons (.tup (.cons (.int 1) (.cons (.int 2) (.nil)))) (.nil))) (.nil))) (.nil))) none) (.and_ (.cmp .eq (.call 16 (.cons (.tup (.cons (.tup (.cons (.tup (.cons (.int 0) (.cons (.int 1) (.nil)))) (.nil))) (.nil))) (.nil))) (.tup (.nil))) (.cmp .eq (.call 16 (.cons (.tup (.nil)) (.nil))) (.tup (.nil))))))
def T : Nat → Option Str := fun i => if i = 1000 then some "math.gcd" else nms[i]?
def prog : Nat → Option Fn := fun i => fns[i]?
theorem ok_pf_is_integer : pf_is_integer.ok T = true := by decide +kernel
theorem ok_pf_fraction_of : pf_fraction_of.ok T = true := by decide +kernel
theorem ok_pf_fraction_sum : pf_fraction_sum.ok T = true := by decide +kernel
theorem ok_pf_fraction_less : pf_fraction_less.ok T = true := by decide +kernel
theorem ok_pf_fraction_times : pf_fraction_times.ok T = true := by decide +kernel
theorem ok_pf_choose : pf_choose.ok T = true := by decide +kernel
theorem ok_pf_is_row : pf_is_row.ok T = true := by decide +kernel
theorem ok_pf_row_of : pf_row_of.ok T = true := by decide +kernel
theorem ok_pf_both_of : pf_both_of.ok T = true := by decide +kernel
theorem ok_pf_row_sum : pf_row_sum.ok T = true := by decide +kernel
theorem ok_pf_row_at : pf_row_at.ok T = true := by decide +kernel
theorem ok_pf_drawn_of : pf_drawn_of.ok T = true := by decide +kernel
theorem ok_pf_is_drawn : pf_is_drawn.ok T = true := by decide +kernel
theorem ok_pf_drawn_at : pf_drawn_at.ok T = true := by decide +kernel
theorem ok_pf_steps_of : pf_steps_of.ok T = true := by decide +kernel
theorem ok_pf_powers_through : pf_powers_through.ok T = true := by decide +kernel
theorem ok_pf_drawn_through : pf_drawn_through.ok T = true := by decide +kernel
theorem ok_pf__law_of : pf__law_of.ok T = true := by decide +kernel
theorem ok_pf__law_fraction : pf__law_fraction.ok T = true := by decide +kernel
theorem ok_pf__law_over : pf__law_over.ok T = true := by decide +kernel
theorem ok_pf__law_at : pf__law_at.ok T = true := by decide +kernel
theorem ok_pf__law_row : pf__law_row.ok T = true := by decide +kernel
theorem ok_pf__law_drawn : pf__law_drawn.ok T = true := by decide +kernel
theorem ok_pf__law_drawn_at : pf__law_drawn_at.ok T = true := by decide +kernel
theorem ok_pf__law_solved : pf__law_solved.ok T = true := by decide +kernel
theorem ok_pf__law_is_whole : pf__law_is_whole.ok T = true := by decide +kernel
theorem scL : FnScope nL ["script"] (defScope (topS 33)) := fs_of (by decide +kernel)
theorem okL : chkS T nL (defScope (topS 33)) bL ((defBody (topS 33)).drop 1) = true := by decide +kernel
end PyI

set_option Elab.async false
set_option linter.all false
set_option maxRecDepth 100000
set_option maxHeartbeats 4000000
/-! rows of integers: the plain law -/
namespace Rw
def bc : Nat → Nat → Nat
  | _, 0 => 1
  | 0, _ + 1 => 0
  | n + 1, k + 1 => bc n k + bc n (k + 1)
theorem bc_zero (n : Nat) : bc n 0 = 1 := by cases n <;> rfl
theorem bc_ss (n k : Nat) : bc (n + 1) (k + 1) = bc n k + bc n (k + 1) := rfl
theorem bc_lt : ∀ n k : Nat, n < k → bc n k = 0
  | 0, k + 1, _ => rfl
  | n + 1, k + 1, h => by rw [bc_ss, bc_lt n k (by omega), bc_lt n (k + 1) (by omega)]
theorem bc_mul : ∀ n k : Nat, (k + 1) * bc n (k + 1) + k * bc n k = n * bc n k := by
  intro n
  induction n with
  | zero => intro k; cases k <;> simp [bc]
  | succ n ih =>
    intro k
    cases k with
    | zero => have := ih 0; simp [bc, bc_zero] at this ⊢; omega
    | succ j =>
      have h1 := ih j
      have h2 := ih (j + 1)
      simp only [bc]
      grind
abbrev b (n k : Nat) : Int := (bc n k : Int)
theorem b_up (n k : Nat) : ((k : Int) + 1) * b n (k + 1) = ((n : Int) - k) * b n k := by
  have h : (((k + 1) * bc n (k + 1) + k * bc n k : Nat) : Int) = ((n * bc n k : Nat) : Int) := by rw [bc_mul]
  simp only [Int.natCast_add, Int.natCast_mul] at h
  grind
theorem b_abs (n k : Nat) : ((n : Int) + 1) * b n k = ((n : Int) + 1 - k) * b (n + 1) k := by
  cases k with
  | zero => simp [b, bc_zero]
  | succ i =>
    have h := b_up n i
    have h2 : b (n + 1) (i + 1) = b n i + b n (i + 1) := by unfold b; rw [bc_ss]; simp
    rw [h2]
    simp only [Int.natCast_add] at h ⊢
    grind
/-- sums -/
def sm : Nat → (Nat → Int) → Int
  | 0, _ => 0
  | n + 1, f => sm n f + f n
theorem sm_succ (n : Nat) (f : Nat → Int) : sm (n + 1) f = sm n f + f n := rfl
theorem sm_congr : ∀ {n : Nat} {f g : Nat → Int}, (∀ j, j < n → f j = g j) → sm n f = sm n g
  | 0, _, _, _ => rfl
  | n + 1, f, g, h => by rw [sm, sm, sm_congr (n := n) (fun j hj => h j (by omega)), h n (by omega)]
theorem sm_add : ∀ {n : Nat} {f g : Nat → Int}, sm n (fun j => f j + g j) = sm n f + sm n g
  | 0, _, _ => rfl
  | n + 1, f, g => by simp only [sm, sm_add (n := n)]; omega
theorem sm_mul : ∀ {n : Nat} {c : Int} {f : Nat → Int}, sm n (fun j => c * f j) = c * sm n f
  | 0, _, _ => by simp [sm]
  | n + 1, c, f => by simp only [sm, sm_mul (n := n)]; grind
theorem sm_zero : ∀ {n : Nat} {f : Nat → Int}, (∀ j, j < n → f j = 0) → sm n f = 0
  | 0, _, _ => rfl
  | n + 1, f, h => by rw [sm, sm_zero (n := n) (fun j hj => h j (by omega)), h n (by omega)]; rfl
theorem sm_first : ∀ (n : Nat) (f : Nat → Int), sm (n + 1) f = f 0 + sm n fun j => f (j + 1)
  | 0, f => by simp [sm]
  | n + 1, f => by rw [sm, sm_first n f, sm]; omega
theorem sm_shift : ∀ (a n : Nat) (f : Nat → Int), (∀ j, j < a → f j = 0) → sm (a + n) f = sm n fun j => f (a + j)
  | a, 0, f, h => by rw [Nat.add_zero]; exact sm_zero h
  | a, n + 1, f, h => by rw [← Nat.add_assoc, sm, sm_shift a n f h, sm]
theorem vdm (m : Nat) : ∀ k i : Nat, b (k + m) i = sm (i + 1) fun j => b k (i - j) * b m j := by
  intro k
  induction k with
  | zero =>
    intro i
    rw [Nat.zero_add, sm, sm_zero fun j hj => ?_]
    · rw [Nat.sub_self]; simp [b, bc_zero]
    · rw [show b 0 (i - j) = 0 by unfold b; rw [bc_lt 0 (i - j) (by omega)]; rfl]; simp
  | succ k ih =>
    intro i
    cases i with
    | zero => simp [sm, b, bc_zero]
    | succ i =>
      have e : k + 1 + m = k + m + 1 := by omega
      rw [e, show b (k + m + 1) (i + 1) = b (k + m) i + b (k + m) (i + 1) by unfold b; rw [bc_ss]; simp, ih i, ih (i + 1)]
      rw [sm_succ (i + 1), sm_succ (i + 1)]
      have h1 : sm (i + 1) (fun j => b (k + 1) (i + 1 - j) * b m j) = sm (i + 1) (fun j => b k (i - j) * b m j) + sm (i + 1) fun j => b k (i + 1 - j) * b m j := by
        rw [← sm_add]
        refine sm_congr fun j hj => ?_
        have e : i + 1 - j = (i - j) + 1 := by omega
        rw [e, show b (k + 1) (i - j + 1) = b k (i - j) + b k (i - j + 1) by unfold b; rw [bc_ss]; simp]
        grind
      rw [h1, Nat.sub_self]
      simp only [b, bc_zero]
      omega
theorem tri (k m : Nat) : ∀ j : Nat, b (k + m) k * b m j = b (k + m) (k + j) * b (k + j) k := by
  intro j
  induction j with
  | zero =>
    have : b k k = 1 := by
      clear m
      unfold b
      induction k with
      | zero => rfl
      | succ k ih => rw [bc_ss, bc_lt k (k + 1) (by omega), Nat.add_zero]; exact ih
    simp only [Nat.add_zero, this, b, bc_zero]; simp
  | succ j ih =>
    have h1 := b_up m j
    have h2 := b_up (k + m) (k + j)
    have h3 := b_abs (k + j) k
    have hj : ((j : Int) + 1) ≠ 0 := by omega
    have e1 : k + (j + 1) = k + j + 1 := by omega
    rw [e1]
    simp only [Int.natCast_add] at h2 h3
    apply Int.eq_of_mul_eq_mul_left hj
    have a1 : (↑j + 1) * (b (k + m) k * b m (j + 1)) = b (k + m) k * (((m : Int) - j) * b m j) := by rw [← h1]; grind
    have a2 : (↑j + 1) * (b (k + m) (k + j + 1) * b (k + j + 1) k) = (((k : Int) + m - (k + j)) * b (k + m) (k + j)) * b (k + j) k := by
      have h3' : (↑k + ↑j + 1) * b (k + j) k = (↑j + 1) * b (k + j + 1) k := by rw [h3]; grind
      rw [← h2]
      have : (↑j + 1) * (b (k + m) (k + j + 1) * b (k + j + 1) k) = b (k + m) (k + j + 1) * ((↑j + 1) * b (k + j + 1) k) := by grind
      rw [this, ← h3']
      grind
    rw [a1, a2]
    have : b (k + m) k * (((m : Int) - j) * b m j) = ((m : Int) - j) * (b (k + m) k * b m j) := by grind
    rw [this, ih]
    grind
/-- the product of two binomials -/
theorem prod (N k i : Nat) : b N k * b N i = sm (i + 1) fun j => b (k + j) k * b k (i - j) * b N (k + j) := by
  by_cases h : k ≤ N
  · obtain ⟨m, rfl⟩ : ∃ m, N = k + m := ⟨N - k, by omega⟩
    rw [vdm m k i, ← sm_mul]
    refine sm_congr fun j hj => ?_
    have := tri k m j
    have e : b (k + m) k * (b k (i - j) * b m j) = b k (i - j) * (b (k + m) k * b m j) := by grind
    rw [e, this]
    grind
  · have z : ∀ j, b N (k + j) = 0 := fun j => by unfold b; rw [bc_lt N (k + j) (by omega)]; rfl
    rw [show b N k = 0 from z 0, sm_zero fun j _ => by rw [z]; simp]
    simp
/-- .. as the program goes through it -/
theorem prod' (N k i : Nat) : sm (k + i + 1 - max k i) (fun s => b (max k i + s) k * b k (k + i - (max k i + s)) * b N (max k i + s)) = b N k * b N i := by
  rw [prod N k i]
  by_cases h : i ≤ k
  · rw [Nat.max_eq_left h, show k + i + 1 - k = i + 1 by omega]
    exact sm_congr fun j hj => by rw [show k + i - (k + j) = i - j by omega]
  · rw [Nat.max_eq_right (by omega), show k + i + 1 - i = k + 1 by omega]
    obtain ⟨a, rfl⟩ : ∃ a, i = k + a := ⟨i - k, by omega⟩
    rw [show k + a + 1 = a + (k + 1) by omega, sm_shift a (k + 1) _ fun j hj => ?_]
    · refine sm_congr fun j hj => ?_
      rw [show k + (k + a) - (k + a + j) = k + a - (a + j) by omega, show k + a + j = k + (a + j) by omega]
    · rw [show b k (k + a - j) = 0 by unfold b; rw [bc_lt k (k + a - j) (by omega)]; rfl]
      simp

/-! rows at n -/
def at_ : List Int → Nat → Nat → Int
  | [], _, _ => 0
  | c :: r, k, N => c * b N k + at_ r (k + 1) N
theorem at_set : ∀ (l : List Int) (p : Nat) (v : Int) (k N : Nat), p < l.length → at_ (l.set p v) k N = at_ l k N + (v - l.getD p 0) * b N (k + p)
  | [], p, v, k, N, h => absurd h (Nat.not_lt_zero _)
  | c :: r, 0, v, k, N, h => by simp only [List.set_cons_zero, at_, List.getD_cons_zero, Nat.add_zero]; grind
  | c :: r, p + 1, v, k, N, h => by
    have := at_set r p v (k + 1) N (by simpa using h)
    simp only [List.set_cons_succ, at_, List.getD_cons_succ, this]
    rw [show k + 1 + p = k + (p + 1) by omega]
    omega
theorem at_sm : ∀ (n : Nat) (l : List Int) (k N : Nat), l.length ≤ n → at_ l k N = sm n fun j => l.getD j 0 * b N (k + j)
  | 0, [], k, N, h => rfl
  | 0, c :: r, k, N, h => absurd h (by simp)
  | n + 1, [], k, N, h => by rw [sm_zero fun j _ => by simp]; rfl
  | n + 1, c :: r, k, N, h => by
    rw [sm_first, at_, at_sm n r (k + 1) N (by simpa using h)]
    simp only [List.getD_cons_zero, Nat.add_zero, List.getD_cons_succ]
    congr 1
    exact sm_congr fun j _ => by rw [show k + 1 + j = k + (j + 1) by omega]
theorem at_ext {l m : List Int} {k N : Nat} (n : Nat) (h1 : l.length ≤ n) (h2 : m.length ≤ n) (h : ∀ j, j < n → l.getD j 0 = m.getD j 0) : at_ l k N = at_ m k N := by
  rw [at_sm n l k N h1, at_sm n m k N h2]
  exact sm_congr fun j hj => by rw [h j hj]
theorem at_replicate : ∀ (n k N : Nat), at_ (List.replicate n 0) k N = 0
  | 0, _, _ => rfl
  | n + 1, k, N => by rw [List.replicate_succ, at_, at_replicate n]; simp
def strip : List Int → List Int
  | [] => []
  | x :: xs => if strip xs = [] then (if x = 0 then [] else [x]) else x :: strip xs
theorem at_strip : ∀ (l : List Int) (k N : Nat), at_ (strip l) k N = at_ l k N
  | [], _, _ => rfl
  | x :: xs, k, N => by
    have ih := at_strip xs (k + 1) N
    unfold strip
    by_cases h : strip xs = []
    · rw [if_pos h]
      rw [h] at ih
      by_cases hx : x = 0
      · rw [if_pos hx]; show at_ [] k N = x * b N k + at_ xs (k + 1) N; rw [← ih, hx]; simp [at_]
      · rw [if_neg hx]; show x * b N k + at_ [] (k + 1) N = x * b N k + at_ xs (k + 1) N; rw [ih]
    · rw [if_neg h, at_, at_, ih]
theorem strip_snoc0 : ∀ l : List Int, strip (l ++ [0]) = strip l
  | [] => rfl
  | x :: xs => by simp only [List.cons_append, strip, strip_snoc0 xs]
theorem strip_snoc : ∀ (l : List Int) {x : Int}, x ≠ 0 → strip (l ++ [x]) = l ++ [x]
  | [], x, h => by simp [strip, h]
  | y :: ys, x, h => by simp [strip, strip_snoc ys h]
theorem strip_zeros (l : List Int) : ∀ n : Nat, strip (l ++ List.replicate n 0) = strip l
  | 0 => by simp
  | n + 1 => by rw [List.replicate_succ', ← List.append_assoc, strip_snoc0, strip_zeros l n]
theorem strip_len : ∀ l : List Int, (strip l).length ≤ l.length
  | [] => Nat.le_refl _
  | x :: xs => by
    have := strip_len xs
    unfold strip
    split
    · split <;> simp
    · simpa using this
theorem strip_mem : ∀ (l : List Int), ∀ x ∈ strip l, x ∈ l
  | [], x, h => h
  | y :: ys, x, h => by
    unfold strip at h
    split at h
    · split at h
      · cases h
      · rw [List.mem_singleton] at h; rw [h]; exact List.mem_cons_self ..
    · rcases List.mem_cons.mp h with h | h
      · rw [h]; exact List.mem_cons_self ..
      · exact List.mem_cons_of_mem _ (strip_mem ys x h)
/-- where the last is not nought nothing is taken off -/
theorem strip_fix {l : List Int} (h : l ≠ [] → l.getLast? ≠ some 0) : strip l = l := by
  cases hl : l.getLast? with
  | none => rw [List.getLast?_eq_none_iff] at hl; subst hl; rfl
  | some x =>
    obtain ⟨ys, rfl⟩ := List.getLast?_eq_some_iff.mp hl
    refine strip_snoc ys fun z => h (by simp) ?_
    rw [hl, z]
theorem strip_last : ∀ (l : List Int), strip l ≠ [] → (strip l).getLast? ≠ some 0
  | [], h => absurd rfl h
  | x :: xs, h => by
    unfold strip at h ⊢
    by_cases hs : strip xs = []
    · rw [if_pos hs] at h ⊢
      by_cases hx : x = 0
      · rw [if_pos hx] at h; exact absurd rfl h
      · rw [if_neg hx]; simpa using hx
    · rw [if_neg hs] at h ⊢
      have := strip_last xs hs
      rw [List.getLast?_cons]
      intro z
      apply this
      cases hq : (strip xs).getLast? with
      | none => rw [List.getLast?_eq_none_iff] at hq; exact absurd hq hs
      | some y => rw [hq] at z; exact z
/-! differences -/
def dif : List Int → List Int
  | x :: y :: r => (y - x) :: dif (y :: r)
  | _ => []
theorem dif_len : ∀ l : List Int, (dif l).length = l.length - 1
  | [] => rfl
  | [_] => rfl
  | x :: y :: r => by rw [dif, List.length_cons, dif_len (y :: r)]; simp
def thr : Nat → List Int → List Int
  | 0, _ => []
  | _ + 1, [] => []
  | n + 1, x :: r => x :: thr n (dif (x :: r))
def tab (f : Nat → Int) : Nat → Nat → List Int
  | 0, _ => []
  | n + 1, s => f s :: tab f n (s + 1)
theorem tab_len (f : Nat → Int) : ∀ n s, (tab f n s).length = n
  | 0, _ => rfl
  | n + 1, s => by rw [tab, List.length_cons, tab_len f n]
theorem tab_map (f : Nat → Int) : ∀ n s, tab f n s = (List.range n).map fun i => f (s + i)
  | 0, _ => rfl
  | n + 1, s => by
    rw [tab, tab_map f n, List.range_succ_eq_map, List.map_cons, List.map_map]
    congr 1
    apply List.map_congr_left
    intro a _
    simp only [Function.comp, Nat.succ_eq_add_one]
    rw [show s + 1 + a = s + (a + 1) by omega]
theorem tab_congr {f g : Nat → Int} (h : ∀ i, f i = g i) (n s : Nat) : tab f n s = tab g n s := by
  rw [show f = g from funext h]
theorem dif_tab (f : Nat → Int) : ∀ n s, dif (tab f (n + 1) s) = tab (fun x => f (x + 1) - f x) n s
  | 0, _ => rfl
  | n + 1, s => by
    rw [tab, tab, dif, ← tab, dif_tab f n, tab]
def pad : Nat → List Int → List Int
  | 0, _ => []
  | n + 1, [] => 0 :: pad n []
  | n + 1, c :: r => c :: pad n r
theorem at_step : ∀ (r : List Int) (k N : Nat), at_ r (k + 1) (N + 1) - at_ r (k + 1) N = at_ r k N
  | [], _, _ => rfl
  | c :: r, k, N => by
    have ih := at_step r (k + 1) N
    simp only [at_]
    have e : b (N + 1) (k + 1) = b N k + b N (k + 1) := by unfold b; rw [bc_ss]; simp
    rw [e, ← ih]
    grind
theorem at_0 : ∀ (r : List Int) (k : Nat), at_ r (k + 1) 0 = 0
  | [], _ => rfl
  | c :: r, k => by rw [at_, at_0 r (k + 1)]; simp [b, bc]
theorem thr_tab : ∀ (n : Nat) (row : List Int), thr n (tab (at_ row 0) n 0) = pad n row
  | 0, _ => rfl
  | n + 1, [] => by
    rw [show thr (n + 1) (tab (at_ [] 0) (n + 1) 0) = at_ [] 0 0 :: thr n (dif (tab (at_ [] 0) (n + 1) 0)) from rfl, dif_tab, tab_congr (g := at_ [] 0) (fun i => by simp [at_]), thr_tab n []]
    rfl
  | n + 1, c :: r => by
    rw [show thr (n + 1) (tab (at_ (c :: r) 0) (n + 1) 0) = at_ (c :: r) 0 0 :: thr n (dif (tab (at_ (c :: r) 0) (n + 1) 0)) from rfl, dif_tab, tab_congr (g := at_ r 0) (fun i => ?_), thr_tab n r]
    · rw [pad, at_, at_0]; simp [b, bc_zero]
    · have := at_step r 0 i
      simp only [at_, b, bc_zero] at this ⊢
      omega
theorem pad_nil : ∀ n, pad n [] = List.replicate n 0
  | 0 => rfl
  | n + 1 => by rw [pad, pad_nil n, List.replicate_succ]
theorem pad_eq : ∀ (n : Nat) (r : List Int), r.length ≤ n → pad n r = r ++ List.replicate (n - r.length) 0
  | n, [], _ => by rw [pad_nil]; simp
  | 0, c :: r, h => absurd h (by simp)
  | n + 1, c :: r, h => by rw [pad, pad_eq n r (by simpa using h)]; simp
/-- the row comes back from its first worths -/
theorem back {n : Nat} {row : List Int} (h : row.length ≤ n) : strip (thr n (tab (at_ row 0) n 0)) = strip row := by
  rw [thr_tab, pad_eq n row h, strip_zeros]
theorem same_iff {n : Nat} {x y : List Int} (hx : x.length ≤ n) (hy : y.length ≤ n) : tab (at_ x 0) n 0 = tab (at_ y 0) n 0 ↔ strip x = strip y := by
  constructor
  · intro h; rw [← back hx, ← back hy, h]
  · intro h; exact tab_congr (fun i => by rw [← at_strip x, ← at_strip y, h]) n 0
/-! sizes -/
theorem bc_pow (n : Nat) : ∀ k, bc n k ≤ n ^ k
  | 0 => by simp [bc_zero]
  | k + 1 => by
    have h1 := bc_mul n k
    have h2 := bc_pow n k
    have h3 : bc n (k + 1) ≤ (k + 1) * bc n (k + 1) := Nat.le_mul_of_pos_left _ (by omega)
    have h4 : n * bc n k ≤ n * n ^ k := Nat.mul_le_mul_left _ h2
    rw [Nat.pow_succ, Nat.mul_comm]
    omega
theorem at_le {C M N : Nat} : ∀ (r : List Int) (k : Nat), (∀ c ∈ r, c.natAbs ≤ C) → (∀ j, j < r.length → bc N (k + j) ≤ M) → (at_ r k N).natAbs ≤ r.length * (C * M)
  | [], _, _, _ => by simp [at_]
  | c :: r, k, h1, h2 => by
    have ih := at_le r (k + 1) (fun x hx => h1 x (List.mem_cons_of_mem _ hx)) (fun j hj => by have := h2 (j + 1) (by simpa using hj); rwa [show k + (j + 1) = k + 1 + j by omega] at this)
    have hc := h1 c (List.mem_cons_self ..)
    have hM := h2 0 (by simp)
    rw [at_, List.length_cons, Nat.succ_mul]
    refine Nat.le_trans (Int.natAbs_add_le _ _) ?_
    have : (c * b N k).natAbs ≤ C * M := by
      rw [Int.natAbs_mul]
      exact Nat.mul_le_mul hc hM
    omega
theorem dif_le {B : Nat} : ∀ l : List Int, (∀ x ∈ l, x.natAbs ≤ B) → ∀ y ∈ dif l, y.natAbs ≤ 2 * B
  | [], _, y, h => nomatch h
  | [_], _, y, h => nomatch h
  | x :: z :: r, hl, y, h => by
    rw [dif] at h
    rcases List.mem_cons.mp h with rfl | h
    · have h1 := hl x (by simp)
      have h2 := hl z (by simp)
      omega
    · exact dif_le (z :: r) (fun w hw => hl w (List.mem_cons_of_mem _ hw)) y h
theorem thr_le : ∀ (n B : Nat) (l : List Int), (∀ x ∈ l, x.natAbs ≤ B) → ∀ y ∈ thr n l, y.natAbs ≤ 2 ^ n * B
  | 0, B, l, _, y, h => nomatch h
  | n + 1, B, [], _, y, h => nomatch h
  | n + 1, B, x :: r, hl, y, h => by
    rw [thr] at h
    rcases List.mem_cons.mp h with rfl | h
    · have := hl y (by simp)
      have : 1 * B ≤ 2 ^ (n + 1) * B := Nat.mul_le_mul_right _ Nat.one_le_two_pow
      omega
    · have := thr_le n (2 * B) _ (dif_le _ hl) y h
      rw [Nat.pow_succ, Nat.mul_assoc]
      exact this
theorem thr_len : ∀ (n : Nat) (l : List Int), (thr n l).length ≤ n
  | 0, l => Nat.le_refl _
  | n + 1, [] => by simp [thr]
  | n + 1, x :: r => by simpa [thr] using thr_len n _
theorem strip_idem (l : List Int) : strip (strip l) = strip l := strip_fix fun h => strip_last l h
theorem zip_tab (f : Int → Int → Int) (p q : Nat → Int) : ∀ n s, List.zipWith f (tab p n s) (tab q n s) = tab (fun i => f (p i) (q i)) n s
  | 0, _ => rfl
  | n + 1, s => by rw [tab, tab, List.zipWith_cons_cons, zip_tab f p q n, tab]
theorem map_tab (f : Int → Int) (p : Nat → Int) : ∀ n s, (tab p n s).map f = tab (fun i => f (p i)) n s
  | 0, _ => rfl
  | n + 1, s => by rw [tab, List.map_cons, map_tab f p n, tab]
theorem tab_mem {p : Nat → Int} {B : Nat} : ∀ n s, (∀ i, s ≤ i → i < s + n → (p i).natAbs ≤ B) → ∀ x ∈ tab p n s, x.natAbs ≤ B
  | 0, _, _, x, h => nomatch h
  | n + 1, s, hp, x, h => by
    rcases List.mem_cons.mp h with rfl | h
    · exact hp s (Nat.le_refl _) (by omega)
    · exact tab_mem n (s + 1) (fun i h1 h2 => hp i (by omega) (by omega)) x h
theorem at_scale (c : Int) : ∀ (r : List Int) (k N : Nat), at_ (r.map (c * ·)) k N = c * at_ r k N
  | [], _, _ => by simp [at_]
  | x :: r, k, N => by rw [List.map_cons, at_, at_, at_scale c r]; grind
end Rw

set_option Elab.async false
set_option linter.all false
set_option maxRecDepth 100000
set_option maxHeartbeats 4000000
namespace PyI
open PySem PySem.Spec PyProof.Rows Rw
variable {τ : Type} {O : Pk τ} {W : Nat}
theorem pow_nat {N i : Nat} (h : N < 2 ^ 100) : bc N i ≤ 2 ^ (100 * i) := by
  refine Nat.le_trans (bc_pow N i) ?_
  rw [Nat.pow_mul]
  exact Nat.pow_le_pow_left (by omega) i
theorem s_choose (n : Nat) {N K : Nat} (hN : N < 2 ^ 100) (hK : K ≤ 100) {t : τ} {Q : R → τ → Prop} (q : Q (.v (.int (b N K))) t) : K2 (run O W prog (n + 1) i_choose [.int (N : Nat), .int (K : Nat)] t) Q := by
  refine run_ (fn := f_choose) rfl rfl ?_
  unfold f_choose b_choose
  simp only [e_var, v_v, v_o, e_non, e_bl, e_int, e_str, e_nil, e_dnil, e_cons, con_, e_tup, ls_, e_lst, e_bin, e_neg, int_, e_nt, e_and, e_or, e_ife, e_cmp, e_isc, e_call, e_pick, pick_, e_b1, e_b2, e_isin, e_ix, e_slc, e_rng1, e_rng2, e_enm, e_zp, zp_l, zp_t, e_comp, turn_, oc_s, oc_n, cmp_nil, cmp_cons, x_asg, x_par, x_sto, sto_, x_app, app_, x_ext, ext_, x_ex, x_pop, pop_, x_popj, x_ret, ret_v, ret_o, ret_k, x_ifs, x_brk, x_cnt, x_pas, sq_n, sq_b, sq_c, sq_r, x_seq, forB_, x_fr, whlC_, x_whl, okK_some, okK_ite, okK_map, okK_bind, trK_t, trK_f, trK_map, K2_some, K3_some, frz, bindT, wipe, R.d_v, R.d_o, R.d_k, R.st_v, R.st_o, R.st_k, binD, cmpD, truth, isinD, ix_d, ix_l, ix_t, get_d, e_get, e_rev, e_scons, x_par3, aI0, aI1, b1_len_d, b1_int, b1_intb, b1_sorted_d, partD, slcD, b1_len_l, b1_len_t, b1_len_s, b1_abs, b1_all, b1_any, b1_sum, b1_tup_l, b1_tup_t, b1_lst_l, b1_lst_t, b1_max, b1_min, b1_sorted, b2D, iscD, items, begin_, List.map_cons, List.map_nil, List.replicate_succ, List.replicate_zero, List.nil_append, List.cons_append, List.getElem?_cons_zero, List.getElem?_cons_succ, List.set_cons_zero, List.set_cons_succ, Option.bind_some, Option.map_some, Nat.reduceSub, Nat.reduceAdd, Int.toNat_natCast, Bool.not_false, Bool.not_true, okK_none]
  refine ⟨by constructor <;> omega, ?_⟩
  refine for_rng (fun i ρ t' => t' = t ∧ ∃ y, ρ = [some (.v (.int N)), some (.v (.int K)), some (.v (.int (b N i))), y]) ⟨rfl, none, by simp [b, bc_zero]⟩ ?_ ?_
  · rintro i ρ t' hi ⟨rfl, y, rfl⟩
    simp only [e_var, v_v, v_o, e_non, e_bl, e_int, e_str, e_nil, e_dnil, e_cons, con_, e_tup, ls_, e_lst, e_bin, e_neg, int_, e_nt, e_and, e_or, e_ife, e_cmp, e_isc, e_call, e_pick, pick_, e_b1, e_b2, e_isin, e_ix, e_slc, e_rng1, e_rng2, e_enm, e_zp, zp_l, zp_t, e_comp, turn_, oc_s, oc_n, cmp_nil, cmp_cons, x_asg, x_par, x_sto, sto_, x_app, app_, x_ext, ext_, x_ex, x_pop, pop_, x_popj, x_ret, ret_v, ret_o, ret_k, x_ifs, x_brk, x_cnt, x_pas, sq_n, sq_b, sq_c, sq_r, x_seq, forB_, x_fr, whlC_, x_whl, okK_some, okK_ite, okK_map, okK_bind, trK_t, trK_f, trK_map, K2_some, K3_some, frz, bindT, wipe, R.d_v, R.d_o, R.d_k, R.st_v, R.st_o, R.st_k, binD, cmpD, truth, isinD, ix_d, ix_l, ix_t, get_d, e_get, e_rev, e_scons, x_par3, aI0, aI1, b1_len_d, b1_int, b1_intb, b1_sorted_d, partD, slcD, b1_len_l, b1_len_t, b1_len_s, b1_abs, b1_all, b1_any, b1_sum, b1_tup_l, b1_tup_t, b1_lst_l, b1_lst_t, b1_max, b1_min, b1_sorted, b2D, iscD, items, begin_, List.map_cons, List.map_nil, List.replicate_succ, List.replicate_zero, List.nil_append, List.cons_append, List.getElem?_cons_zero, List.getElem?_cons_succ, List.set_cons_zero, List.set_cons_succ, Option.bind_some, Option.map_some, Nat.reduceSub, Nat.reduceAdd, Int.toNat_natCast, Bool.not_false, Bool.not_true, okK_none]
    have hi : i < K := by omega
    have h1 : (b N i).natAbs < 2 ^ 10001 := by
      rw [Int.natAbs_natCast]
      refine Nat.lt_of_le_of_lt (pow_nat hN) ?_
      exact Nat.pow_lt_pow_right (by omega) (by omega)
    have h2 : ((N : Int) - (0 + (i : Nat))).natAbs < 2 ^ 101 := by omega
    refine ⟨mulL h1 h2 (by omega), ⟨by omega, ?_⟩, trivial, some (.v (.int (0 + (i : Nat)))), ?_⟩
    · have : ((0 : Int) + (i : Nat) + 1).natAbs < 2 ^ 8 := by omega
      have := log2_le this
      omega
    · have e : b N i * ((N : Int) - (0 + (i : Nat))) = b N (i + 1) * (0 + (i : Nat) + 1) := by
        have := b_up N i
        grind
      rw [e, Int.mul_fdiv_cancel _ (by omega)]
  · rintro ρ t' ⟨rfl, y, rfl⟩
    simp only [e_var, v_v, v_o, e_non, e_bl, e_int, e_str, e_nil, e_dnil, e_cons, con_, e_tup, ls_, e_lst, e_bin, e_neg, int_, e_nt, e_and, e_or, e_ife, e_cmp, e_isc, e_call, e_pick, pick_, e_b1, e_b2, e_isin, e_ix, e_slc, e_rng1, e_rng2, e_enm, e_zp, zp_l, zp_t, e_comp, turn_, oc_s, oc_n, cmp_nil, cmp_cons, x_asg, x_par, x_sto, sto_, x_app, app_, x_ext, ext_, x_ex, x_pop, pop_, x_popj, x_ret, ret_v, ret_o, ret_k, x_ifs, x_brk, x_cnt, x_pas, sq_n, sq_b, sq_c, sq_r, x_seq, forB_, x_fr, whlC_, x_whl, okK_some, okK_ite, okK_map, okK_bind, trK_t, trK_f, trK_map, K2_some, K3_some, frz, bindT, wipe, R.d_v, R.d_o, R.d_k, R.st_v, R.st_o, R.st_k, binD, cmpD, truth, isinD, ix_d, ix_l, ix_t, get_d, e_get, e_rev, e_scons, x_par3, aI0, aI1, b1_len_d, b1_int, b1_intb, b1_sorted_d, partD, slcD, b1_len_l, b1_len_t, b1_len_s, b1_abs, b1_all, b1_any, b1_sum, b1_tup_l, b1_tup_t, b1_lst_l, b1_lst_t, b1_max, b1_min, b1_sorted, b2D, iscD, items, begin_, List.map_cons, List.map_nil, List.replicate_succ, List.replicate_zero, List.nil_append, List.cons_append, List.getElem?_cons_zero, List.getElem?_cons_succ, List.set_cons_zero, List.set_cons_succ, Option.bind_some, Option.map_some, Nat.reduceSub, Nat.reduceAdd, Int.toNat_natCast, Bool.not_false, Bool.not_true, okK_none]
    simpa using q

def isI : D → Bool | .int _ => true | _ => false
theorem s_int (n : Nat) {d : D} {t : τ} {Q : R → τ → Prop} (hd : d ≠ .src) (q : Q (.v (.bl (isI d))) t) : K2 (run O W prog (n + 1) i_is_integer [d] t) Q := by
  refine run_ (fn := f_is_integer) rfl rfl ?_
  unfold f_is_integer b_is_integer
  cases d <;> first | exact absurd rfl hd | (simp only [e_var, v_v, v_o, e_non, e_bl, e_int, e_str, e_nil, e_dnil, e_cons, con_, e_tup, ls_, e_lst, e_bin, e_neg, int_, e_nt, e_and, e_or, e_ife, e_cmp, e_isc, e_call, e_pick, pick_, e_b1, e_b2, e_isin, e_ix, e_slc, e_rng1, e_rng2, e_enm, e_zp, zp_l, zp_t, e_comp, turn_, oc_s, oc_n, cmp_nil, cmp_cons, x_asg, x_par, x_sto, sto_, x_app, app_, x_ext, ext_, x_ex, x_pop, pop_, x_popj, x_ret, ret_v, ret_o, ret_k, x_ifs, x_brk, x_cnt, x_pas, sq_n, sq_b, sq_c, sq_r, x_seq, forB_, x_fr, whlC_, x_whl, okK_some, okK_ite, okK_map, okK_bind, trK_t, trK_f, trK_map, K2_some, K3_some, frz, bindT, wipe, R.d_v, R.d_o, R.d_k, R.st_v, R.st_o, R.st_k, binD, cmpD, truth, isinD, ix_d, ix_l, ix_t, get_d, e_get, e_rev, e_scons, x_par3, aI0, aI1, b1_len_d, b1_int, b1_intb, b1_sorted_d, partD, slcD, b1_len_l, b1_len_t, b1_len_s, b1_abs, b1_all, b1_any, b1_sum, b1_tup_l, b1_tup_t, b1_lst_l, b1_lst_t, b1_max, b1_min, b1_sorted, b2D, iscD, items, begin_, List.map_cons, List.map_nil, List.replicate_succ, List.replicate_zero, List.nil_append, List.cons_append, List.getElem?_cons_zero, List.getElem?_cons_succ, List.set_cons_zero, List.set_cons_succ, Option.bind_some, Option.map_some, Nat.reduceSub, Nat.reduceAdd, Int.toNat_natCast, Bool.not_false, Bool.not_true, okK_none]; exact q)
theorem s_row_of (n : Nat) {xs : List Int} {t : τ} {Q : R → τ → Prop} (hW : xs.length < W) (q : Q (.v (.tup (I (strip xs)))) t) : K2 (run O W prog (n + 1) i_row_of [.lst (I xs)] t) Q := by
  refine run_ (fn := f_row_of) rfl rfl ?_
  unfold f_row_of b_row_of
  simp only [e_var, v_v, v_o, e_non, e_bl, e_int, e_str, e_nil, e_dnil, e_cons, con_, e_tup, ls_, e_lst, e_bin, e_neg, int_, e_nt, e_and, e_or, e_ife, e_cmp, e_isc, e_call, e_pick, pick_, e_b1, e_b2, e_isin, e_ix, e_slc, e_rng1, e_rng2, e_enm, e_zp, zp_l, zp_t, e_comp, turn_, oc_s, oc_n, cmp_nil, cmp_cons, x_asg, x_par, x_sto, sto_, x_app, app_, x_ext, ext_, x_ex, x_pop, pop_, x_popj, x_ret, ret_v, ret_o, ret_k, x_ifs, x_brk, x_cnt, x_pas, sq_n, sq_b, sq_c, sq_r, x_seq, forB_, x_fr, whlC_, x_whl, okK_some, okK_ite, okK_map, okK_bind, trK_t, trK_f, trK_map, K2_some, K3_some, frz, bindT, wipe, R.d_v, R.d_o, R.d_k, R.st_v, R.st_o, R.st_k, binD, cmpD, truth, isinD, ix_d, ix_l, ix_t, get_d, e_get, e_rev, e_scons, x_par3, aI0, aI1, b1_len_d, b1_int, b1_intb, b1_sorted_d, partD, slcD, b1_len_l, b1_len_t, b1_len_s, b1_abs, b1_all, b1_any, b1_sum, b1_tup_l, b1_tup_t, b1_lst_l, b1_lst_t, b1_max, b1_min, b1_sorted, b2D, iscD, items, begin_, List.map_cons, List.map_nil, List.replicate_succ, List.replicate_zero, List.nil_append, List.cons_append, List.getElem?_cons_zero, List.getElem?_cons_succ, List.set_cons_zero, List.set_cons_succ, Option.bind_some, Option.map_some, Nat.reduceSub, Nat.reduceAdd, Int.toNat_natCast, Bool.not_false, Bool.not_true, okK_none]
  refine whl_inv (fun m ρ t' => t' = t ∧ m ≤ xs.length ∧ strip (xs.take m) = strip xs ∧ ρ = [some (.v (.lst (I xs))), some (.v (.int (m : Nat)))]) W xs.length _ _ hW ⟨rfl, Nat.le_refl _, by rw [List.take_length], by simp [I]⟩ ?_
  rintro m ρ t' ⟨rfl, hm, hs, rfl⟩
  have fin : strip (xs.take m) = xs.take m → Q (.v (.tup (cut (I xs) none (some (m : Int))))) t' := fun e => by
    rw [cut_to, show (I xs).take m = I (xs.take m) by simp [I, List.map_take], ← e, hs]
    exact q
  simp only [e_var, v_v, v_o, e_non, e_bl, e_int, e_str, e_nil, e_dnil, e_cons, con_, e_tup, ls_, e_lst, e_bin, e_neg, int_, e_nt, e_and, e_or, e_ife, e_cmp, e_isc, e_call, e_pick, pick_, e_b1, e_b2, e_isin, e_ix, e_slc, e_rng1, e_rng2, e_enm, e_zp, zp_l, zp_t, e_comp, turn_, oc_s, oc_n, cmp_nil, cmp_cons, x_asg, x_par, x_sto, sto_, x_app, app_, x_ext, ext_, x_ex, x_pop, pop_, x_popj, x_ret, ret_v, ret_o, ret_k, x_ifs, x_brk, x_cnt, x_pas, sq_n, sq_b, sq_c, sq_r, x_seq, forB_, x_fr, whlC_, x_whl, okK_some, okK_ite, okK_map, okK_bind, trK_t, trK_f, trK_map, K2_some, K3_some, frz, bindT, wipe, R.d_v, R.d_o, R.d_k, R.st_v, R.st_o, R.st_k, binD, cmpD, truth, isinD, ix_d, ix_l, ix_t, get_d, e_get, e_rev, e_scons, x_par3, aI0, aI1, b1_len_d, b1_int, b1_intb, b1_sorted_d, partD, slcD, b1_len_l, b1_len_t, b1_len_s, b1_abs, b1_all, b1_any, b1_sum, b1_tup_l, b1_tup_t, b1_lst_l, b1_lst_t, b1_max, b1_min, b1_sorted, b2D, iscD, items, begin_, List.map_cons, List.map_nil, List.replicate_succ, List.replicate_zero, List.nil_append, List.cons_append, List.getElem?_cons_zero, List.getElem?_cons_succ, List.set_cons_zero, List.set_cons_succ, Option.bind_some, Option.map_some, Nat.reduceSub, Nat.reduceAdd, Int.toNat_natCast, Bool.not_false, Bool.not_true, okK_none]
  by_cases h0 : m = 0
  · subst h0
    refine .inr ⟨by simp, ?_⟩
    exact ⟨(fun z => by cases z), fun _ => fin rfl⟩
  · refine .inl ⟨by simp; omega, ?_⟩
    obtain ⟨j, rfl⟩ : ∃ j, m = j + 1 := ⟨m - 1, by omega⟩
    rw [show (((j + 1 : Nat) : Int) - 1) = ((j : Nat) : Int) by omega, atI_I (by omega)]
    simp only [e_var, v_v, v_o, e_non, e_bl, e_int, e_str, e_nil, e_dnil, e_cons, con_, e_tup, ls_, e_lst, e_bin, e_neg, int_, e_nt, e_and, e_or, e_ife, e_cmp, e_isc, e_call, e_pick, pick_, e_b1, e_b2, e_isin, e_ix, e_slc, e_rng1, e_rng2, e_enm, e_zp, zp_l, zp_t, e_comp, turn_, oc_s, oc_n, cmp_nil, cmp_cons, x_asg, x_par, x_sto, sto_, x_app, app_, x_ext, ext_, x_ex, x_pop, pop_, x_popj, x_ret, ret_v, ret_o, ret_k, x_ifs, x_brk, x_cnt, x_pas, sq_n, sq_b, sq_c, sq_r, x_seq, forB_, x_fr, whlC_, x_whl, okK_some, okK_ite, okK_map, okK_bind, trK_t, trK_f, trK_map, K2_some, K3_some, frz, bindT, wipe, R.d_v, R.d_o, R.d_k, R.st_v, R.st_o, R.st_k, binD, cmpD, truth, isinD, ix_d, ix_l, ix_t, get_d, e_get, e_rev, e_scons, x_par3, aI0, aI1, b1_len_d, b1_int, b1_intb, b1_sorted_d, partD, slcD, b1_len_l, b1_len_t, b1_len_s, b1_abs, b1_all, b1_any, b1_sum, b1_tup_l, b1_tup_t, b1_lst_l, b1_lst_t, b1_max, b1_min, b1_sorted, b2D, iscD, items, begin_, List.map_cons, List.map_nil, List.replicate_succ, List.replicate_zero, List.nil_append, List.cons_append, List.getElem?_cons_zero, List.getElem?_cons_succ, List.set_cons_zero, List.set_cons_succ, Option.bind_some, Option.map_some, Nat.reduceSub, Nat.reduceAdd, Int.toNat_natCast, Bool.not_false, Bool.not_true, okK_none, eq_int]
    have ht : xs.take (j + 1) = xs.take j ++ [xs.getD j 0] := by
      rw [List.take_add_one, List.getElem?_eq_getElem (by omega)]
      simp [List.getD_eq_getElem?_getD, List.getElem?_eq_getElem (show j < xs.length by omega)]
    refine ⟨fun z => ⟨j, by omega, trivial, by omega, ?_, by rfl⟩, fun z => fin ?_⟩
    · rw [← hs, ht, show xs.getD j 0 = 0 by simpa using z, strip_snoc0]
    · rw [ht]
      exact strip_snoc _ (by simpa using z)

def padd (xs ys : List Int) (f : Int → Int → Int) : List Int := (List.range (max xs.length ys.length)).map fun i => f (xs.getD i 0) (ys.getD i 0)
theorem padd_len (xs ys : List Int) (f : Int → Int → Int) : (padd xs ys f).length = max xs.length ys.length := by simp [padd]
theorem padd_getD {xs ys : List Int} {f : Int → Int → Int} (h : f 0 0 = 0) (j : Nat) : (padd xs ys f).getD j 0 = f (xs.getD j 0) (ys.getD j 0) := by
  unfold padd
  by_cases hj : j < max xs.length ys.length
  · simp [List.getD_eq_getElem?_getD, hj]
  · have h1 : xs.getD j 0 = 0 := by simp [List.getD_eq_getElem?_getD, List.getElem?_eq_none (show xs.length ≤ j by omega)]
    have h2 : ys.getD j 0 = 0 := by simp [List.getD_eq_getElem?_getD, List.getElem?_eq_none (show ys.length ≤ j by omega)]
    rw [h1, h2, h]
    simp [List.getD_eq_getElem?_getD, hj]
theorem s_both (n : Nat) {xs ys : List Int} {t : τ} {Q : R → τ → Prop} (hx : xs.length ≤ 1000) (hy : ys.length ≤ 1000) (q : Q (.o (.lst ((List.range (max xs.length ys.length)).map fun i => .tup [.int (xs.getD i 0), .int (ys.getD i 0)]))) t) : K2 (run O W prog (n + 1) i_both_of [.tup (I xs), .tup (I ys)] t) Q := by
  refine run_ (fn := f_both_of) rfl rfl ?_
  unfold f_both_of b_both_of
  simp only [e_var, v_v, v_o, e_non, e_bl, e_int, e_str, e_nil, e_dnil, e_cons, con_, e_tup, ls_, e_lst, e_bin, e_neg, int_, e_nt, e_and, e_or, e_ife, e_cmp, e_isc, e_call, e_pick, pick_, e_b1, e_b2, e_isin, e_ix, e_slc, e_rng1, e_rng2, e_enm, e_zp, zp_l, zp_t, e_comp, turn_, oc_s, oc_n, cmp_nil, cmp_cons, x_asg, x_par, x_sto, sto_, x_app, app_, x_ext, ext_, x_ex, x_pop, pop_, x_popj, x_ret, ret_v, ret_o, ret_k, x_ifs, x_brk, x_cnt, x_pas, sq_n, sq_b, sq_c, sq_r, x_seq, forB_, x_fr, whlC_, x_whl, okK_some, okK_ite, okK_map, okK_bind, trK_t, trK_f, trK_map, K2_some, K3_some, frz, bindT, wipe, R.d_v, R.d_o, R.d_k, R.st_v, R.st_o, R.st_k, binD, cmpD, truth, isinD, ix_d, ix_l, ix_t, get_d, e_get, e_rev, e_scons, x_par3, aI0, aI1, b1_len_d, b1_int, b1_intb, b1_sorted_d, partD, slcD, b1_len_l, b1_len_t, b1_len_s, b1_abs, b1_all, b1_any, b1_sum, b1_tup_l, b1_tup_t, b1_lst_l, b1_lst_t, b1_max, b1_min, b1_sorted, b2D, iscD, items, begin_, List.map_cons, List.map_nil, List.replicate_succ, List.replicate_zero, List.nil_append, List.cons_append, List.getElem?_cons_zero, List.getElem?_cons_succ, List.set_cons_zero, List.set_cons_succ, Option.bind_some, Option.map_some, Nat.reduceSub, Nat.reduceAdd, Int.toNat_natCast, Bool.not_false, Bool.not_true, okK_none, List.length_map]
  have em : (if ((ys.length : Nat) : Int) > (xs.length : Nat) then ((ys.length : Nat) : Int) else ((xs.length : Nat) : Int)) = ((max xs.length ys.length : Nat) : Int) := by
    split <;> omega
  rw [em, Int.toNat_natCast]
  refine ⟨by constructor <;> omega, by rw [rangeD_len, sizeLine_eq]; omega, ?_⟩
  rw [rangeD_0]
  refine cmp_map (fun d => match d with | .int i => .tup [.int (xs.getD i.toNat 0), .int (ys.getD i.toNat 0)] | _ => .non) _ _ (fun x hx' => ?_) ?_
  · simp only [List.mem_map, List.mem_range] at hx'
    obtain ⟨i, hi, rfl⟩ := hx'
    simp only [e_var, v_v, v_o, e_non, e_bl, e_int, e_str, e_nil, e_dnil, e_cons, con_, e_tup, ls_, e_lst, e_bin, e_neg, int_, e_nt, e_and, e_or, e_ife, e_cmp, e_isc, e_call, e_pick, pick_, e_b1, e_b2, e_isin, e_ix, e_slc, e_rng1, e_rng2, e_enm, e_zp, zp_l, zp_t, e_comp, turn_, oc_s, oc_n, cmp_nil, cmp_cons, x_asg, x_par, x_sto, sto_, x_app, app_, x_ext, ext_, x_ex, x_pop, pop_, x_popj, x_ret, ret_v, ret_o, ret_k, x_ifs, x_brk, x_cnt, x_pas, sq_n, sq_b, sq_c, sq_r, x_seq, forB_, x_fr, whlC_, x_whl, okK_some, okK_ite, okK_map, okK_bind, trK_t, trK_f, trK_map, K2_some, K3_some, frz, bindT, wipe, R.d_v, R.d_o, R.d_k, R.st_v, R.st_o, R.st_k, binD, cmpD, truth, isinD, ix_d, ix_l, ix_t, get_d, e_get, e_rev, e_scons, x_par3, aI0, aI1, b1_len_d, b1_int, b1_intb, b1_sorted_d, partD, slcD, b1_len_l, b1_len_t, b1_len_s, b1_abs, b1_all, b1_any, b1_sum, b1_tup_l, b1_tup_t, b1_lst_l, b1_lst_t, b1_max, b1_min, b1_sorted, b2D, iscD, items, begin_, List.map_cons, List.map_nil, List.replicate_succ, List.replicate_zero, List.nil_append, List.cons_append, List.getElem?_cons_zero, List.getElem?_cons_succ, List.set_cons_zero, List.set_cons_succ, Option.bind_some, Option.map_some, Nat.reduceSub, Nat.reduceAdd, Int.toNat_natCast, Bool.not_false, Bool.not_true, okK_none, List.length_map]
    have get : ∀ (zs : List Int) (A : D → Prop), A (.int (zs.getD i 0)) → trK (some (decide (((i : Nat) : Int) < ((zs.length : Nat) : Int)))) (okK (L2.atI (I zs) ((i : Nat) : Int)) A) (A (.int 0)) := fun zs A hk => by
      by_cases h : i < zs.length
      · rw [trK_b]
        refine ⟨fun _ => ?_, fun z => absurd (of_decide_eq_false z) (by omega)⟩
        rw [atI_I h, okK_some]
        exact hk
      · rw [trK_b]
        refine ⟨fun z => absurd (of_decide_eq_true z) (by omega), fun _ => ?_⟩
        rw [show zs.getD i 0 = 0 by simp [List.getD_eq_getElem?_getD, List.getElem?_eq_none (show zs.length ≤ i by omega)]] at hk
        exact hk
    refine get xs _ (get ys _ ?_)
    simp only [e_var, v_v, v_o, e_non, e_bl, e_int, e_str, e_nil, e_dnil, e_cons, con_, e_tup, ls_, e_lst, e_bin, e_neg, int_, e_nt, e_and, e_or, e_ife, e_cmp, e_isc, e_call, e_pick, pick_, e_b1, e_b2, e_isin, e_ix, e_slc, e_rng1, e_rng2, e_enm, e_zp, zp_l, zp_t, e_comp, turn_, oc_s, oc_n, cmp_nil, cmp_cons, x_asg, x_par, x_sto, sto_, x_app, app_, x_ext, ext_, x_ex, x_pop, pop_, x_popj, x_ret, ret_v, ret_o, ret_k, x_ifs, x_brk, x_cnt, x_pas, sq_n, sq_b, sq_c, sq_r, x_seq, forB_, x_fr, whlC_, x_whl, okK_some, okK_ite, okK_map, okK_bind, trK_t, trK_f, trK_map, K2_some, K3_some, frz, bindT, wipe, R.d_v, R.d_o, R.d_k, R.st_v, R.st_o, R.st_k, binD, cmpD, truth, isinD, ix_d, ix_l, ix_t, get_d, e_get, e_rev, e_scons, x_par3, aI0, aI1, b1_len_d, b1_int, b1_intb, b1_sorted_d, partD, slcD, b1_len_l, b1_len_t, b1_len_s, b1_abs, b1_all, b1_any, b1_sum, b1_tup_l, b1_tup_t, b1_lst_l, b1_lst_t, b1_max, b1_min, b1_sorted, b2D, iscD, items, begin_, List.map_cons, List.map_nil, List.replicate_succ, List.replicate_zero, List.nil_append, List.cons_append, List.getElem?_cons_zero, List.getElem?_cons_succ, List.set_cons_zero, List.set_cons_succ, Option.bind_some, Option.map_some, Nat.reduceSub, Nat.reduceAdd, Int.toNat_natCast, Bool.not_false, Bool.not_true, okK_none, Int.toNat_natCast]
    refine ⟨by rw [sizeLine_eq]; show 2 ≤ 16777216; decide, ?_⟩
    simp
  · rw [List.map_map]
    exact q

theorem s_sum (n : Nat) {xs ys : List Int} {t : τ} {Q : R → τ → Prop} (hx : xs.length ≤ 1000) (hy : ys.length ≤ 1000) (hW : 1000 < W) (q : Q (.v (.tup (I (strip (padd xs ys (· + ·)))))) t) : K2 (run O W prog (n + 2) i_row_sum [.tup (I xs), .tup (I ys)] t) Q := by
  refine run_ (fn := f_row_sum) rfl rfl ?_
  unfold f_row_sum b_row_sum
  simp only [e_var, v_v, v_o, e_non, e_bl, e_int, e_str, e_nil, e_dnil, e_cons, con_, e_tup, ls_, e_lst, e_bin, e_neg, int_, e_nt, e_and, e_or, e_ife, e_cmp, e_isc, e_call, e_pick, pick_, e_b1, e_b2, e_isin, e_ix, e_slc, e_rng1, e_rng2, e_enm, e_zp, zp_l, zp_t, e_comp, turn_, oc_s, oc_n, cmp_nil, cmp_cons, x_asg, x_par, x_sto, sto_, x_app, app_, x_ext, ext_, x_ex, x_pop, pop_, x_popj, x_ret, ret_v, ret_o, ret_k, x_ifs, x_brk, x_cnt, x_pas, sq_n, sq_b, sq_c, sq_r, x_seq, forB_, x_fr, whlC_, x_whl, okK_some, okK_ite, okK_map, okK_bind, trK_t, trK_f, trK_map, K2_some, K3_some, frz, bindT, wipe, R.d_v, R.d_o, R.d_k, R.st_v, R.st_o, R.st_k, binD, cmpD, truth, isinD, ix_d, ix_l, ix_t, get_d, e_get, e_rev, e_scons, x_par3, aI0, aI1, b1_len_d, b1_int, b1_intb, b1_sorted_d, partD, slcD, b1_len_l, b1_len_t, b1_len_s, b1_abs, b1_all, b1_any, b1_sum, b1_tup_l, b1_tup_t, b1_lst_l, b1_lst_t, b1_max, b1_min, b1_sorted, b2D, iscD, items, begin_, List.map_cons, List.map_nil, List.replicate_succ, List.replicate_zero, List.nil_append, List.cons_append, List.getElem?_cons_zero, List.getElem?_cons_succ, List.set_cons_zero, List.set_cons_succ, Option.bind_some, Option.map_some, Nat.reduceSub, Nat.reduceAdd, Int.toNat_natCast, Bool.not_false, Bool.not_true, okK_none]
  refine s_both n hx hy ?_
  simp only [e_var, v_v, v_o, e_non, e_bl, e_int, e_str, e_nil, e_dnil, e_cons, con_, e_tup, ls_, e_lst, e_bin, e_neg, int_, e_nt, e_and, e_or, e_ife, e_cmp, e_isc, e_call, e_pick, pick_, e_b1, e_b2, e_isin, e_ix, e_slc, e_rng1, e_rng2, e_enm, e_zp, zp_l, zp_t, e_comp, turn_, oc_s, oc_n, cmp_nil, cmp_cons, x_asg, x_par, x_sto, sto_, x_app, app_, x_ext, ext_, x_ex, x_pop, pop_, x_popj, x_ret, ret_v, ret_o, ret_k, x_ifs, x_brk, x_cnt, x_pas, sq_n, sq_b, sq_c, sq_r, x_seq, forB_, x_fr, whlC_, x_whl, okK_some, okK_ite, okK_map, okK_bind, trK_t, trK_f, trK_map, K2_some, K3_some, frz, bindT, wipe, R.d_v, R.d_o, R.d_k, R.st_v, R.st_o, R.st_k, binD, cmpD, truth, isinD, ix_d, ix_l, ix_t, get_d, e_get, e_rev, e_scons, x_par3, aI0, aI1, b1_len_d, b1_int, b1_intb, b1_sorted_d, partD, slcD, b1_len_l, b1_len_t, b1_len_s, b1_abs, b1_all, b1_any, b1_sum, b1_tup_l, b1_tup_t, b1_lst_l, b1_lst_t, b1_max, b1_min, b1_sorted, b2D, iscD, items, begin_, List.map_cons, List.map_nil, List.replicate_succ, List.replicate_zero, List.nil_append, List.cons_append, List.getElem?_cons_zero, List.getElem?_cons_succ, List.set_cons_zero, List.set_cons_succ, Option.bind_some, Option.map_some, Nat.reduceSub, Nat.reduceAdd, Int.toNat_natCast, Bool.not_false, Bool.not_true, okK_none]
  refine ⟨by rw [sizeLine_eq, List.length_map, List.length_range]; omega, ?_⟩
  refine cmp_map (fun d => match d with | .tup [.int x, .int y] => .int (x + y) | _ => .non) _ _ (fun x hx' => ?_) ?_
  · simp only [List.mem_map, List.mem_range] at hx'
    obtain ⟨i, hi, rfl⟩ := hx'
    simp only [e_var, v_v, v_o, e_non, e_bl, e_int, e_str, e_nil, e_dnil, e_cons, con_, e_tup, ls_, e_lst, e_bin, e_neg, int_, e_nt, e_and, e_or, e_ife, e_cmp, e_isc, e_call, e_pick, pick_, e_b1, e_b2, e_isin, e_ix, e_slc, e_rng1, e_rng2, e_enm, e_zp, zp_l, zp_t, e_comp, turn_, oc_s, oc_n, cmp_nil, cmp_cons, x_asg, x_par, x_sto, sto_, x_app, app_, x_ext, ext_, x_ex, x_pop, pop_, x_popj, x_ret, ret_v, ret_o, ret_k, x_ifs, x_brk, x_cnt, x_pas, sq_n, sq_b, sq_c, sq_r, x_seq, forB_, x_fr, whlC_, x_whl, okK_some, okK_ite, okK_map, okK_bind, trK_t, trK_f, trK_map, K2_some, K3_some, frz, bindT, wipe, R.d_v, R.d_o, R.d_k, R.st_v, R.st_o, R.st_k, binD, cmpD, truth, isinD, ix_d, ix_l, ix_t, get_d, e_get, e_rev, e_scons, x_par3, aI0, aI1, b1_len_d, b1_int, b1_intb, b1_sorted_d, partD, slcD, b1_len_l, b1_len_t, b1_len_s, b1_abs, b1_all, b1_any, b1_sum, b1_tup_l, b1_tup_t, b1_lst_l, b1_lst_t, b1_max, b1_min, b1_sorted, b2D, iscD, items, begin_, List.map_cons, List.map_nil, List.replicate_succ, List.replicate_zero, List.nil_append, List.cons_append, List.getElem?_cons_zero, List.getElem?_cons_succ, List.set_cons_zero, List.set_cons_succ, Option.bind_some, Option.map_some, Nat.reduceSub, Nat.reduceAdd, Int.toNat_natCast, Bool.not_false, Bool.not_true, okK_none]
    exact ⟨trivial, trivial⟩
  · rw [List.map_map, show List.map ((fun d => match d with | .tup [.int x, .int y] => D.int (x + y) | _ => .non) ∘ fun i => D.tup [.int (xs.getD i 0), .int (ys.getD i 0)]) (List.range (max xs.length ys.length)) = I (padd xs ys (· + ·)) by simp [padd, I, Function.comp]]
    refine s_row_of n (by rw [padd_len]; omega) ?_
    simp only [e_var, v_v, v_o, e_non, e_bl, e_int, e_str, e_nil, e_dnil, e_cons, con_, e_tup, ls_, e_lst, e_bin, e_neg, int_, e_nt, e_and, e_or, e_ife, e_cmp, e_isc, e_call, e_pick, pick_, e_b1, e_b2, e_isin, e_ix, e_slc, e_rng1, e_rng2, e_enm, e_zp, zp_l, zp_t, e_comp, turn_, oc_s, oc_n, cmp_nil, cmp_cons, x_asg, x_par, x_sto, sto_, x_app, app_, x_ext, ext_, x_ex, x_pop, pop_, x_popj, x_ret, ret_v, ret_o, ret_k, x_ifs, x_brk, x_cnt, x_pas, sq_n, sq_b, sq_c, sq_r, x_seq, forB_, x_fr, whlC_, x_whl, okK_some, okK_ite, okK_map, okK_bind, trK_t, trK_f, trK_map, K2_some, K3_some, frz, bindT, wipe, R.d_v, R.d_o, R.d_k, R.st_v, R.st_o, R.st_k, binD, cmpD, truth, isinD, ix_d, ix_l, ix_t, get_d, e_get, e_rev, e_scons, x_par3, aI0, aI1, b1_len_d, b1_int, b1_intb, b1_sorted_d, partD, slcD, b1_len_l, b1_len_t, b1_len_s, b1_abs, b1_all, b1_any, b1_sum, b1_tup_l, b1_tup_t, b1_lst_l, b1_lst_t, b1_max, b1_min, b1_sorted, b2D, iscD, items, begin_, List.map_cons, List.map_nil, List.replicate_succ, List.replicate_zero, List.nil_append, List.cons_append, List.getElem?_cons_zero, List.getElem?_cons_succ, List.set_cons_zero, List.set_cons_succ, Option.bind_some, Option.map_some, Nat.reduceSub, Nat.reduceAdd, Int.toNat_natCast, Bool.not_false, Bool.not_true, okK_none]
    exact q

/-! worths -/
theorem enum_mem : ∀ (xs : List Int) (k : Nat), ∀ d ∈ enumD k (I xs), ∃ (j : Nat) (c : Int), d = .tup [.int (j : Nat), .int c] ∧ c ∈ xs ∧ k ≤ j ∧ j < k + xs.length
  | [], k, d, h => nomatch h
  | x :: xs, k, d, h => by
    rcases List.mem_cons.mp h with rfl | h
    · exact ⟨k, x, rfl, List.mem_cons_self .., Nat.le_refl _, by rw [List.length_cons]; omega⟩
    · obtain ⟨j, c, e, h1, h2, h3⟩ := enum_mem xs (k + 1) d h
      exact ⟨j, c, e, List.mem_cons_of_mem _ h1, by omega, by rw [List.length_cons]; omega⟩
def tms (N : Nat) : Nat → List Int → List Int
  | _, [] => []
  | k, c :: r => c * b N k :: tms N (k + 1) r
theorem tms_sum (N : Nat) : ∀ (r : List Int) (k : Nat), (tms N k r).sum = at_ r k N
  | [], _ => rfl
  | c :: r, k => by rw [tms, List.sum_cons, tms_sum N r, at_]
def gT (N : Nat) : D → D := fun d => match d with | .tup [.int j, .int c] => .int (c * b N j.toNat) | _ => .non
theorem tms_map (N : Nat) : ∀ (r : List Int) (k : Nat), (enumD k (I r)).map (gT N) = I (tms N k r)
  | [], _ => rfl
  | c :: r, k => by
    show gT N (.tup [.int (k : Nat), .int c]) :: (enumD (k + 1) (I r)).map (gT N) = _
    rw [tms_map N r (k + 1)]
    rfl
def fact : Nat → Nat
  | 0 => 1
  | n + 1 => fact n * (n + 1)
theorem fact_le : ∀ n : Nat, n ≤ 100 → fact n ≤ 2 ^ (7 * n)
  | 0, _ => Nat.le_refl _
  | n + 1, h => by
    have := fact_le n (by omega)
    rw [fact, show 7 * (n + 1) = 7 * n + 7 by omega, Nat.pow_add]
    exact Nat.mul_le_mul this (by show n + 1 ≤ 128; omega)
theorem fact_pos : ∀ n : Nat, 0 < fact n
  | 0 => Nat.one_pos
  | n + 1 => Nat.mul_pos (fact_pos n) (Nat.succ_pos n)
theorem s_over (n : Nat) {N K : Nat} (hN : N < 2 ^ 100) (hK : K ≤ 100) {t : τ} {Q : R → τ → Prop} (q : Q (.v (.int (b N K))) t) : K2 (run O W prog (n + 1) i__law_over [.int (N : Nat), .int (K : Nat)] t) Q := by
  refine run_ (fn := f__law_over) rfl rfl ?_
  unfold f__law_over b__law_over
  simp only [e_var, v_v, v_o, e_non, e_bl, e_int, e_str, e_nil, e_dnil, e_cons, con_, e_tup, ls_, e_lst, e_bin, e_neg, int_, e_nt, e_and, e_or, e_ife, e_cmp, e_isc, e_call, e_pick, pick_, e_b1, e_b2, e_isin, e_ix, e_slc, e_rng1, e_rng2, e_enm, e_zp, zp_l, zp_t, e_comp, turn_, oc_s, oc_n, cmp_nil, cmp_cons, x_asg, x_par, x_sto, sto_, x_app, app_, x_ext, ext_, x_ex, x_pop, pop_, x_popj, x_ret, ret_v, ret_o, ret_k, x_ifs, x_brk, x_cnt, x_pas, sq_n, sq_b, sq_c, sq_r, x_seq, forB_, x_fr, whlC_, x_whl, okK_some, okK_ite, okK_map, okK_bind, trK_t, trK_f, trK_map, K2_some, K3_some, frz, bindT, wipe, R.d_v, R.d_o, R.d_k, R.st_v, R.st_o, R.st_k, binD, cmpD, truth, isinD, ix_d, ix_l, ix_t, get_d, e_get, e_rev, e_scons, x_par3, aI0, aI1, b1_len_d, b1_int, b1_intb, b1_sorted_d, partD, slcD, b1_len_l, b1_len_t, b1_len_s, b1_abs, b1_all, b1_any, b1_sum, b1_tup_l, b1_tup_t, b1_lst_l, b1_lst_t, b1_max, b1_min, b1_sorted, b2D, iscD, items, begin_, List.map_cons, List.map_nil, List.replicate_succ, List.replicate_zero, List.nil_append, List.cons_append, List.getElem?_cons_zero, List.getElem?_cons_succ, List.set_cons_zero, List.set_cons_succ, Option.bind_some, Option.map_some, Nat.reduceSub, Nat.reduceAdd, Int.toNat_natCast, Bool.not_false, Bool.not_true, okK_none]
  refine ⟨by constructor <;> omega, ?_⟩
  have fb : ∀ i, i ≤ K → ((fact i : Nat) : Int).natAbs < 2 ^ 701 := fun i hi => by
    rw [Int.natAbs_natCast]
    refine Nat.lt_of_le_of_lt (fact_le i (by omega)) ?_
    exact Nat.pow_lt_pow_right (by omega) (by omega)
  have bb : ∀ i, i ≤ K → (b N i).natAbs < 2 ^ 10001 := fun i hi => by
    rw [Int.natAbs_natCast]
    refine Nat.lt_of_le_of_lt (pow_nat hN) ?_
    exact Nat.pow_lt_pow_right (by omega) (by omega)
  refine for_rng (fun i ρ t' => t' = t ∧ ∃ y, ρ = [some (.v (.int N)), some (.v (.int K)), y, some (.v (.int (b N i * (fact i : Nat)))), some (.v (.int (fact i : Nat)))]) ⟨rfl, none, by simp [b, bc_zero, fact]⟩ ?_ ?_
  · rintro i ρ t' hi ⟨rfl, y, rfl⟩
    simp only [e_var, v_v, v_o, e_non, e_bl, e_int, e_str, e_nil, e_dnil, e_cons, con_, e_tup, ls_, e_lst, e_bin, e_neg, int_, e_nt, e_and, e_or, e_ife, e_cmp, e_isc, e_call, e_pick, pick_, e_b1, e_b2, e_isin, e_ix, e_slc, e_rng1, e_rng2, e_enm, e_zp, zp_l, zp_t, e_comp, turn_, oc_s, oc_n, cmp_nil, cmp_cons, x_asg, x_par, x_sto, sto_, x_app, app_, x_ext, ext_, x_ex, x_pop, pop_, x_popj, x_ret, ret_v, ret_o, ret_k, x_ifs, x_brk, x_cnt, x_pas, sq_n, sq_b, sq_c, sq_r, x_seq, forB_, x_fr, whlC_, x_whl, okK_some, okK_ite, okK_map, okK_bind, trK_t, trK_f, trK_map, K2_some, K3_some, frz, bindT, wipe, R.d_v, R.d_o, R.d_k, R.st_v, R.st_o, R.st_k, binD, cmpD, truth, isinD, ix_d, ix_l, ix_t, get_d, e_get, e_rev, e_scons, x_par3, aI0, aI1, b1_len_d, b1_int, b1_intb, b1_sorted_d, partD, slcD, b1_len_l, b1_len_t, b1_len_s, b1_abs, b1_all, b1_any, b1_sum, b1_tup_l, b1_tup_t, b1_lst_l, b1_lst_t, b1_max, b1_min, b1_sorted, b2D, iscD, items, begin_, List.map_cons, List.map_nil, List.replicate_succ, List.replicate_zero, List.nil_append, List.cons_append, List.getElem?_cons_zero, List.getElem?_cons_succ, List.set_cons_zero, List.set_cons_succ, Option.bind_some, Option.map_some, Nat.reduceSub, Nat.reduceAdd, Int.toNat_natCast, Bool.not_false, Bool.not_true, okK_none]
    have hi : i < K := by omega
    have h1 : (b N i * (fact i : Nat)).natAbs < 2 ^ 10702 := by
      rw [Int.natAbs_mul, show 10702 = 10001 + 701 by rfl, Nat.pow_add]
      exact Nat.mul_lt_mul_of_lt_of_le (bb i (by omega)) (Nat.le_of_lt (fb i (by omega))) (Nat.pow_pos (by omega))
    have h2 : ((N : Int) - (0 + (i : Nat))).natAbs < 2 ^ 101 := by omega
    have h3 : ((0 : Int) + (i : Nat) + 1).natAbs < 2 ^ 8 := by omega
    refine ⟨mulL h1 h2 (by omega), mulL (fb i (by omega)) h3 (by omega), trivial, some (.v (.int (0 + (i : Nat)))), ?_⟩
    have e : b N i * (fact i : Nat) * ((N : Int) - (0 + (i : Nat))) = b N (i + 1) * (fact (i + 1) : Nat) := by
      have := b_up N i
      rw [fact]
      simp only [Int.natCast_mul, Int.natCast_add]
      grind
    have e2 : ((fact i : Nat) : Int) * (0 + (i : Nat) + 1) = ((fact (i + 1) : Nat) : Int) := by
      rw [fact]
      simp
    rw [e, e2]
  · rintro ρ t' ⟨rfl, y, rfl⟩
    simp only [e_var, v_v, v_o, e_non, e_bl, e_int, e_str, e_nil, e_dnil, e_cons, con_, e_tup, ls_, e_lst, e_bin, e_neg, int_, e_nt, e_and, e_or, e_ife, e_cmp, e_isc, e_call, e_pick, pick_, e_b1, e_b2, e_isin, e_ix, e_slc, e_rng1, e_rng2, e_enm, e_zp, zp_l, zp_t, e_comp, turn_, oc_s, oc_n, cmp_nil, cmp_cons, x_asg, x_par, x_sto, sto_, x_app, app_, x_ext, ext_, x_ex, x_pop, pop_, x_popj, x_ret, ret_v, ret_o, ret_k, x_ifs, x_brk, x_cnt, x_pas, sq_n, sq_b, sq_c, sq_r, x_seq, forB_, x_fr, whlC_, x_whl, okK_some, okK_ite, okK_map, okK_bind, trK_t, trK_f, trK_map, K2_some, K3_some, frz, bindT, wipe, R.d_v, R.d_o, R.d_k, R.st_v, R.st_o, R.st_k, binD, cmpD, truth, isinD, ix_d, ix_l, ix_t, get_d, e_get, e_rev, e_scons, x_par3, aI0, aI1, b1_len_d, b1_int, b1_intb, b1_sorted_d, partD, slcD, b1_len_l, b1_len_t, b1_len_s, b1_abs, b1_all, b1_any, b1_sum, b1_tup_l, b1_tup_t, b1_lst_l, b1_lst_t, b1_max, b1_min, b1_sorted, b2D, iscD, items, begin_, List.map_cons, List.map_nil, List.replicate_succ, List.replicate_zero, List.nil_append, List.cons_append, List.getElem?_cons_zero, List.getElem?_cons_succ, List.set_cons_zero, List.set_cons_succ, Option.bind_some, Option.map_some, Nat.reduceSub, Nat.reduceAdd, Int.toNat_natCast, Bool.not_false, Bool.not_true, okK_none]
    have hp := fact_pos K
    refine ⟨⟨by omega, ?_⟩, ?_⟩
    · have := log2_le (fb K (by omega))
      omega
    · rw [Int.mul_fdiv_cancel _ (by omega)]
      exact q
end PyI

set_option Elab.async false
set_option linter.all false
set_option maxRecDepth 100000
set_option maxHeartbeats 4000000
namespace PyI
open PySem PySem.Spec PyProof.Rows Rw
variable {τ : Type} {O : Pk τ} {W : Nat}
theorem s_at (n : Nat) {N : Nat} {xs : List Int} {t : τ} {Q : R → τ → Prop} (hN : N < 2 ^ 100) (hx : ∀ x ∈ xs, x.natAbs < 2 ^ 5000) (hl : xs.length ≤ 100) (q : Q (.v (.int (at_ xs 0 N))) t) : K2 (run O W prog (n + 2) i_row_at [.tup (I xs), .int (N : Nat)] t) Q := by
  refine run_ (fn := f_row_at) rfl rfl ?_
  unfold f_row_at b_row_at
  simp only [e_var, v_v, v_o, e_non, e_bl, e_int, e_str, e_nil, e_dnil, e_cons, con_, e_tup, ls_, e_lst, e_bin, e_neg, int_, e_nt, e_and, e_or, e_ife, e_cmp, e_isc, e_call, e_pick, pick_, e_b1, e_b2, e_isin, e_ix, e_slc, e_rng1, e_rng2, e_enm, e_zp, zp_l, zp_t, e_comp, turn_, oc_s, oc_n, cmp_nil, cmp_cons, x_asg, x_par, x_sto, sto_, x_app, app_, x_ext, ext_, x_ex, x_pop, pop_, x_popj, x_ret, ret_v, ret_o, ret_k, x_ifs, x_brk, x_cnt, x_pas, sq_n, sq_b, sq_c, sq_r, x_seq, forB_, x_fr, whlC_, x_whl, okK_some, okK_ite, okK_map, okK_bind, trK_t, trK_f, trK_map, K2_some, K3_some, frz, bindT, wipe, R.d_v, R.d_o, R.d_k, R.st_v, R.st_o, R.st_k, binD, cmpD, truth, isinD, ix_d, ix_l, ix_t, get_d, e_get, e_rev, e_scons, x_par3, aI0, aI1, b1_len_d, b1_int, b1_intb, b1_sorted_d, partD, slcD, b1_len_l, b1_len_t, b1_len_s, b1_abs, b1_all, b1_any, b1_sum, b1_tup_l, b1_tup_t, b1_lst_l, b1_lst_t, b1_max, b1_min, b1_sorted, b2D, iscD, items, begin_, List.map_cons, List.map_nil, List.replicate_succ, List.replicate_zero, List.nil_append, List.cons_append, List.getElem?_cons_zero, List.getElem?_cons_succ, List.set_cons_zero, List.set_cons_succ, Option.bind_some, Option.map_some, Nat.reduceSub, Nat.reduceAdd, Int.toNat_natCast, Bool.not_false, Bool.not_true, okK_none]
  refine ⟨by rw [sizeLine_eq, enumD_len, List.length_map]; omega, ?_⟩
  refine cmp_map (gT N) _ _ (fun x hx' => ?_) ?_
  · obtain ⟨j, c, rfl, hc, _, hj⟩ := enum_mem _ _ _ hx'
    simp only [e_var, v_v, v_o, e_non, e_bl, e_int, e_str, e_nil, e_dnil, e_cons, con_, e_tup, ls_, e_lst, e_bin, e_neg, int_, e_nt, e_and, e_or, e_ife, e_cmp, e_isc, e_call, e_pick, pick_, e_b1, e_b2, e_isin, e_ix, e_slc, e_rng1, e_rng2, e_enm, e_zp, zp_l, zp_t, e_comp, turn_, oc_s, oc_n, cmp_nil, cmp_cons, x_asg, x_par, x_sto, sto_, x_app, app_, x_ext, ext_, x_ex, x_pop, pop_, x_popj, x_ret, ret_v, ret_o, ret_k, x_ifs, x_brk, x_cnt, x_pas, sq_n, sq_b, sq_c, sq_r, x_seq, forB_, x_fr, whlC_, x_whl, okK_some, okK_ite, okK_map, okK_bind, trK_t, trK_f, trK_map, K2_some, K3_some, frz, bindT, wipe, R.d_v, R.d_o, R.d_k, R.st_v, R.st_o, R.st_k, binD, cmpD, truth, isinD, ix_d, ix_l, ix_t, get_d, e_get, e_rev, e_scons, x_par3, aI0, aI1, b1_len_d, b1_int, b1_intb, b1_sorted_d, partD, slcD, b1_len_l, b1_len_t, b1_len_s, b1_abs, b1_all, b1_any, b1_sum, b1_tup_l, b1_tup_t, b1_lst_l, b1_lst_t, b1_max, b1_min, b1_sorted, b2D, iscD, items, begin_, List.map_cons, List.map_nil, List.replicate_succ, List.replicate_zero, List.nil_append, List.cons_append, List.getElem?_cons_zero, List.getElem?_cons_succ, List.set_cons_zero, List.set_cons_succ, Option.bind_some, Option.map_some, Nat.reduceSub, Nat.reduceAdd, Int.toNat_natCast, Bool.not_false, Bool.not_true, okK_none]
    refine s_choose n hN (by omega) ?_
    simp only [e_var, v_v, v_o, e_non, e_bl, e_int, e_str, e_nil, e_dnil, e_cons, con_, e_tup, ls_, e_lst, e_bin, e_neg, int_, e_nt, e_and, e_or, e_ife, e_cmp, e_isc, e_call, e_pick, pick_, e_b1, e_b2, e_isin, e_ix, e_slc, e_rng1, e_rng2, e_enm, e_zp, zp_l, zp_t, e_comp, turn_, oc_s, oc_n, cmp_nil, cmp_cons, x_asg, x_par, x_sto, sto_, x_app, app_, x_ext, ext_, x_ex, x_pop, pop_, x_popj, x_ret, ret_v, ret_o, ret_k, x_ifs, x_brk, x_cnt, x_pas, sq_n, sq_b, sq_c, sq_r, x_seq, forB_, x_fr, whlC_, x_whl, okK_some, okK_ite, okK_map, okK_bind, trK_t, trK_f, trK_map, K2_some, K3_some, frz, bindT, wipe, R.d_v, R.d_o, R.d_k, R.st_v, R.st_o, R.st_k, binD, cmpD, truth, isinD, ix_d, ix_l, ix_t, get_d, e_get, e_rev, e_scons, x_par3, aI0, aI1, b1_len_d, b1_int, b1_intb, b1_sorted_d, partD, slcD, b1_len_l, b1_len_t, b1_len_s, b1_abs, b1_all, b1_any, b1_sum, b1_tup_l, b1_tup_t, b1_lst_l, b1_lst_t, b1_max, b1_min, b1_sorted, b2D, iscD, items, begin_, List.map_cons, List.map_nil, List.replicate_succ, List.replicate_zero, List.nil_append, List.cons_append, List.getElem?_cons_zero, List.getElem?_cons_succ, List.set_cons_zero, List.set_cons_succ, Option.bind_some, Option.map_some, Nat.reduceSub, Nat.reduceAdd, Int.toNat_natCast, Bool.not_false, Bool.not_true, okK_none]
    refine ⟨mulL (hx c hc) (b := 10001) ?_ (by omega), rfl, trivial⟩
    rw [Int.natAbs_natCast]
    refine Nat.lt_of_le_of_lt (pow_nat hN) ?_
    exact Nat.pow_lt_pow_right (by omega) (by omega)
  · rw [tms_map, intsD_I, okK_some, tms_sum]
    exact q
theorem s_at2 (n : Nat) {N : Nat} {xs : List Int} {t : τ} {Q : R → τ → Prop} (hN : N < 2 ^ 100) (hx : ∀ x ∈ xs, x.natAbs < 2 ^ 5000) (hl : xs.length ≤ 100) (q : Q (.v (.int (at_ xs 0 N))) t) : K2 (run O W prog (n + 2) i__law_at [.tup (I xs), .int (N : Nat)] t) Q := by
  refine run_ (fn := f__law_at) rfl rfl ?_
  unfold f__law_at b__law_at
  simp only [e_var, v_v, v_o, e_non, e_bl, e_int, e_str, e_nil, e_dnil, e_cons, con_, e_tup, ls_, e_lst, e_bin, e_neg, int_, e_nt, e_and, e_or, e_ife, e_cmp, e_isc, e_call, e_pick, pick_, e_b1, e_b2, e_isin, e_ix, e_slc, e_rng1, e_rng2, e_enm, e_zp, zp_l, zp_t, e_comp, turn_, oc_s, oc_n, cmp_nil, cmp_cons, x_asg, x_par, x_sto, sto_, x_app, app_, x_ext, ext_, x_ex, x_pop, pop_, x_popj, x_ret, ret_v, ret_o, ret_k, x_ifs, x_brk, x_cnt, x_pas, sq_n, sq_b, sq_c, sq_r, x_seq, forB_, x_fr, whlC_, x_whl, okK_some, okK_ite, okK_map, okK_bind, trK_t, trK_f, trK_map, K2_some, K3_some, frz, bindT, wipe, R.d_v, R.d_o, R.d_k, R.st_v, R.st_o, R.st_k, binD, cmpD, truth, isinD, ix_d, ix_l, ix_t, get_d, e_get, e_rev, e_scons, x_par3, aI0, aI1, b1_len_d, b1_int, b1_intb, b1_sorted_d, partD, slcD, b1_len_l, b1_len_t, b1_len_s, b1_abs, b1_all, b1_any, b1_sum, b1_tup_l, b1_tup_t, b1_lst_l, b1_lst_t, b1_max, b1_min, b1_sorted, b2D, iscD, items, begin_, List.map_cons, List.map_nil, List.replicate_succ, List.replicate_zero, List.nil_append, List.cons_append, List.getElem?_cons_zero, List.getElem?_cons_succ, List.set_cons_zero, List.set_cons_succ, Option.bind_some, Option.map_some, Nat.reduceSub, Nat.reduceAdd, Int.toNat_natCast, Bool.not_false, Bool.not_true, okK_none]
  refine ⟨by rw [sizeLine_eq, enumD_len, List.length_map]; omega, ?_⟩
  refine cmp_map (gT N) _ _ (fun x hx' => ?_) ?_
  · obtain ⟨j, c, rfl, hc, _, hj⟩ := enum_mem _ _ _ hx'
    simp only [e_var, v_v, v_o, e_non, e_bl, e_int, e_str, e_nil, e_dnil, e_cons, con_, e_tup, ls_, e_lst, e_bin, e_neg, int_, e_nt, e_and, e_or, e_ife, e_cmp, e_isc, e_call, e_pick, pick_, e_b1, e_b2, e_isin, e_ix, e_slc, e_rng1, e_rng2, e_enm, e_zp, zp_l, zp_t, e_comp, turn_, oc_s, oc_n, cmp_nil, cmp_cons, x_asg, x_par, x_sto, sto_, x_app, app_, x_ext, ext_, x_ex, x_pop, pop_, x_popj, x_ret, ret_v, ret_o, ret_k, x_ifs, x_brk, x_cnt, x_pas, sq_n, sq_b, sq_c, sq_r, x_seq, forB_, x_fr, whlC_, x_whl, okK_some, okK_ite, okK_map, okK_bind, trK_t, trK_f, trK_map, K2_some, K3_some, frz, bindT, wipe, R.d_v, R.d_o, R.d_k, R.st_v, R.st_o, R.st_k, binD, cmpD, truth, isinD, ix_d, ix_l, ix_t, get_d, e_get, e_rev, e_scons, x_par3, aI0, aI1, b1_len_d, b1_int, b1_intb, b1_sorted_d, partD, slcD, b1_len_l, b1_len_t, b1_len_s, b1_abs, b1_all, b1_any, b1_sum, b1_tup_l, b1_tup_t, b1_lst_l, b1_lst_t, b1_max, b1_min, b1_sorted, b2D, iscD, items, begin_, List.map_cons, List.map_nil, List.replicate_succ, List.replicate_zero, List.nil_append, List.cons_append, List.getElem?_cons_zero, List.getElem?_cons_succ, List.set_cons_zero, List.set_cons_succ, Option.bind_some, Option.map_some, Nat.reduceSub, Nat.reduceAdd, Int.toNat_natCast, Bool.not_false, Bool.not_true, okK_none]
    refine s_over n hN (by omega) ?_
    simp only [e_var, v_v, v_o, e_non, e_bl, e_int, e_str, e_nil, e_dnil, e_cons, con_, e_tup, ls_, e_lst, e_bin, e_neg, int_, e_nt, e_and, e_or, e_ife, e_cmp, e_isc, e_call, e_pick, pick_, e_b1, e_b2, e_isin, e_ix, e_slc, e_rng1, e_rng2, e_enm, e_zp, zp_l, zp_t, e_comp, turn_, oc_s, oc_n, cmp_nil, cmp_cons, x_asg, x_par, x_sto, sto_, x_app, app_, x_ext, ext_, x_ex, x_pop, pop_, x_popj, x_ret, ret_v, ret_o, ret_k, x_ifs, x_brk, x_cnt, x_pas, sq_n, sq_b, sq_c, sq_r, x_seq, forB_, x_fr, whlC_, x_whl, okK_some, okK_ite, okK_map, okK_bind, trK_t, trK_f, trK_map, K2_some, K3_some, frz, bindT, wipe, R.d_v, R.d_o, R.d_k, R.st_v, R.st_o, R.st_k, binD, cmpD, truth, isinD, ix_d, ix_l, ix_t, get_d, e_get, e_rev, e_scons, x_par3, aI0, aI1, b1_len_d, b1_int, b1_intb, b1_sorted_d, partD, slcD, b1_len_l, b1_len_t, b1_len_s, b1_abs, b1_all, b1_any, b1_sum, b1_tup_l, b1_tup_t, b1_lst_l, b1_lst_t, b1_max, b1_min, b1_sorted, b2D, iscD, items, begin_, List.map_cons, List.map_nil, List.replicate_succ, List.replicate_zero, List.nil_append, List.cons_append, List.getElem?_cons_zero, List.getElem?_cons_succ, List.set_cons_zero, List.set_cons_succ, Option.bind_some, Option.map_some, Nat.reduceSub, Nat.reduceAdd, Int.toNat_natCast, Bool.not_false, Bool.not_true, okK_none]
    refine ⟨mulL (hx c hc) (b := 10001) ?_ (by omega), rfl, trivial⟩
    rw [Int.natAbs_natCast]
    refine Nat.lt_of_le_of_lt (pow_nat hN) ?_
    exact Nat.pow_lt_pow_right (by omega) (by omega)
  · rw [tms_map, intsD_I, okK_some, tms_sum]
    exact q

theorem s_of (n : Nat) (hO : PkOk O) {ds : List D} {t : τ} {Q : R → τ → Prop} (h0 : ds ≠ []) (hl : ds.length < 1073741824) (q : ∀ d ∈ ds, ∀ t', Q (.v d) t') : K2 (run O W prog (n + 1) i__law_of [.src, .lst ds] t) Q := by
  refine run_ (fn := f__law_of) rfl rfl ?_
  unfold f__law_of b__law_of
  simp only [e_var, v_v, v_o, e_non, e_bl, e_int, e_str, e_nil, e_dnil, e_cons, con_, e_tup, ls_, e_lst, e_bin, e_neg, int_, e_nt, e_and, e_or, e_ife, e_cmp, e_isc, e_call, e_pick, pick_, e_b1, e_b2, e_isin, e_ix, e_slc, e_rng1, e_rng2, e_enm, e_zp, zp_l, zp_t, e_comp, turn_, oc_s, oc_n, cmp_nil, cmp_cons, x_asg, x_par, x_sto, sto_, x_app, app_, x_ext, ext_, x_ex, x_pop, pop_, x_popj, x_ret, ret_v, ret_o, ret_k, x_ifs, x_brk, x_cnt, x_pas, sq_n, sq_b, sq_c, sq_r, x_seq, forB_, x_fr, whlC_, x_whl, okK_some, okK_ite, okK_map, okK_bind, trK_t, trK_f, trK_map, K2_some, K3_some, frz, bindT, wipe, R.d_v, R.d_o, R.d_k, R.st_v, R.st_o, R.st_k, binD, cmpD, truth, isinD, ix_d, ix_l, ix_t, get_d, e_get, e_rev, e_scons, x_par3, aI0, aI1, b1_len_d, b1_int, b1_intb, b1_sorted_d, partD, slcD, b1_len_l, b1_len_t, b1_len_s, b1_abs, b1_all, b1_any, b1_sum, b1_tup_l, b1_tup_t, b1_lst_l, b1_lst_t, b1_max, b1_min, b1_sorted, b2D, iscD, items, begin_, List.map_cons, List.map_nil, List.replicate_succ, List.replicate_zero, List.nil_append, List.cons_append, List.getElem?_cons_zero, List.getElem?_cons_succ, List.set_cons_zero, List.set_cons_succ, Option.bind_some, Option.map_some, Nat.reduceSub, Nat.reduceAdd, Int.toNat_natCast, Bool.not_false, Bool.not_true, okK_none]
  refine ⟨by omega, ?_⟩
  exact pick_at hO h0 fun d hd => q d hd _
/-- noughts taken off the end -/
theorem pops {F : Fs τ} {xs : List Int} {ρ : Rho} {t : τ} {kk : Out → Rho → τ → Prop} {i : Nat} (hi : ρ[i]? = some (some (.o (.lst (I xs))))) (hW : xs.length < W) (q : kk .nx (ρ.set i (some (.o (.lst (I (strip xs)))))) t) :
    K3 (whlL (whlC O F (.and_ (.cmp .ne (.var i) (.lst .nil)) (.cmp .eq (.ix (.var i) (.neg (.int 1))) (.int 0)))) (exec O F W (.pop none i)) W ρ t) kk := by
  refine whl_inv (fun m ρ' t' => t' = t ∧ ∃ ys : List Int, ys.length = m ∧ strip ys = strip xs ∧ ρ' = ρ.set i (some (.o (.lst (I ys))))) W xs.length _ _ hW ⟨rfl, xs, rfl, rfl, ?_⟩ ?_
  · obtain ⟨h1, h2⟩ := List.getElem?_eq_some_iff.mp hi
    rw [← h2, List.set_getElem_self]
  rintro m ρ' t' ⟨rfl, ys, rfl, hs, rfl⟩
  have hlen : i < ρ.length := (List.getElem?_eq_some_iff.mp hi).1
  have gi : (ρ.set i (some (.o (.lst (I ys)))))[i]? = some (some (R.o (.lst (I ys)))) := by rw [List.getElem?_set_self hlen]
  simp only [e_var, v_v, v_o, e_non, e_bl, e_int, e_str, e_nil, e_dnil, e_cons, con_, e_tup, ls_, e_lst, e_bin, e_neg, int_, e_nt, e_and, e_or, e_ife, e_cmp, e_isc, e_call, e_pick, pick_, e_b1, e_b2, e_isin, e_ix, e_slc, e_rng1, e_rng2, e_enm, e_zp, zp_l, zp_t, e_comp, turn_, oc_s, oc_n, cmp_nil, cmp_cons, x_asg, x_par, x_sto, sto_, x_app, app_, x_ext, ext_, x_ex, x_pop, pop_, x_popj, x_ret, ret_v, ret_o, ret_k, x_ifs, x_brk, x_cnt, x_pas, sq_n, sq_b, sq_c, sq_r, x_seq, forB_, x_fr, whlC_, x_whl, okK_some, okK_ite, okK_map, okK_bind, trK_t, trK_f, trK_map, K2_some, K3_some, frz, bindT, wipe, R.d_v, R.d_o, R.d_k, R.st_v, R.st_o, R.st_k, binD, cmpD, truth, isinD, ix_d, ix_l, ix_t, get_d, e_get, e_rev, e_scons, x_par3, aI0, aI1, b1_len_d, b1_int, b1_intb, b1_sorted_d, partD, slcD, b1_len_l, b1_len_t, b1_len_s, b1_abs, b1_all, b1_any, b1_sum, b1_tup_l, b1_tup_t, b1_lst_l, b1_lst_t, b1_max, b1_min, b1_sorted, b2D, iscD, items, begin_, List.map_cons, List.map_nil, List.replicate_succ, List.replicate_zero, List.nil_append, List.cons_append, List.getElem?_cons_zero, List.getElem?_cons_succ, List.set_cons_zero, List.set_cons_succ, Option.bind_some, Option.map_some, Nat.reduceSub, Nat.reduceAdd, Int.toNat_natCast, Bool.not_false, Bool.not_true, okK_none, gi, List.length_nil, Nat.zero_le, eq_lst_nil]
  by_cases h0 : ys = []
  · subst h0
    refine ⟨trivial, .inr ⟨rfl, (fun z => by cases z), fun _ => ?_⟩⟩
    rw [show strip xs = [] from hs.symm] at q
    exact q
  · refine ⟨trivial, .inl ⟨by simp [h0], ?_⟩⟩
    obtain ⟨zs, z, rfl⟩ : ∃ zs z, ys = zs ++ [z] := ⟨ys.dropLast, ys.getLast h0, (List.dropLast_concat_getLast h0).symm⟩
    rw [atI_lastI]
    simp only [e_var, v_v, v_o, e_non, e_bl, e_int, e_str, e_nil, e_dnil, e_cons, con_, e_tup, ls_, e_lst, e_bin, e_neg, int_, e_nt, e_and, e_or, e_ife, e_cmp, e_isc, e_call, e_pick, pick_, e_b1, e_b2, e_isin, e_ix, e_slc, e_rng1, e_rng2, e_enm, e_zp, zp_l, zp_t, e_comp, turn_, oc_s, oc_n, cmp_nil, cmp_cons, x_asg, x_par, x_sto, sto_, x_app, app_, x_ext, ext_, x_ex, x_pop, pop_, x_popj, x_ret, ret_v, ret_o, ret_k, x_ifs, x_brk, x_cnt, x_pas, sq_n, sq_b, sq_c, sq_r, x_seq, forB_, x_fr, whlC_, x_whl, okK_some, okK_ite, okK_map, okK_bind, trK_t, trK_f, trK_map, K2_some, K3_some, frz, bindT, wipe, R.d_v, R.d_o, R.d_k, R.st_v, R.st_o, R.st_k, binD, cmpD, truth, isinD, ix_d, ix_l, ix_t, get_d, e_get, e_rev, e_scons, x_par3, aI0, aI1, b1_len_d, b1_int, b1_intb, b1_sorted_d, partD, slcD, b1_len_l, b1_len_t, b1_len_s, b1_abs, b1_all, b1_any, b1_sum, b1_tup_l, b1_tup_t, b1_lst_l, b1_lst_t, b1_max, b1_min, b1_sorted, b2D, iscD, items, begin_, List.map_cons, List.map_nil, List.replicate_succ, List.replicate_zero, List.nil_append, List.cons_append, List.getElem?_cons_zero, List.getElem?_cons_succ, List.set_cons_zero, List.set_cons_succ, Option.bind_some, Option.map_some, Nat.reduceSub, Nat.reduceAdd, Int.toNat_natCast, Bool.not_false, Bool.not_true, okK_none, eq_int, pop_snoc]
    refine ⟨fun hz => ⟨zs.length, by simp, trivial, zs, rfl, ?_, by rw [List.set_set]⟩, fun hz => ?_⟩
    · rw [← hs, show z = 0 by simpa using hz, strip_snoc0]
    · rw [← hs, strip_snoc _ (by simpa using hz)] at q
      exact q

/-- what rows are drawn from -/
def small (x : Int) : Prop := x.natAbs ≤ 10 ^ 30
theorem s_row (n : Nat) (hO : PkOk O) (hW : 1000 < W) {m : Nat} (hm : m < 1000) {t : τ} {Q : R → τ → Prop} (q : ∀ xs : List Int, xs.length ≤ m → (∀ x ∈ xs, small x) → ∀ t', Q (.v (.tup (I (strip xs)))) t') : K2 (run O W prog (n + 2) i__law_row [.src, .int (m : Nat)] t) Q := by
  refine run_ (fn := f__law_row) rfl rfl ?_
  unfold f__law_row b__law_row
  simp only [e_var, v_v, v_o, e_non, e_bl, e_int, e_str, e_nil, e_dnil, e_cons, con_, e_tup, ls_, e_lst, e_bin, e_neg, int_, e_nt, e_and, e_or, e_ife, e_cmp, e_isc, e_call, e_pick, pick_, e_b1, e_b2, e_isin, e_ix, e_slc, e_rng1, e_rng2, e_enm, e_zp, zp_l, zp_t, e_comp, turn_, oc_s, oc_n, cmp_nil, cmp_cons, x_asg, x_par, x_sto, sto_, x_app, app_, x_ext, ext_, x_ex, x_pop, pop_, x_popj, x_ret, ret_v, ret_o, ret_k, x_ifs, x_brk, x_cnt, x_pas, sq_n, sq_b, sq_c, sq_r, x_seq, forB_, x_fr, whlC_, x_whl, okK_some, okK_ite, okK_map, okK_bind, trK_t, trK_f, trK_map, K2_some, K3_some, frz, bindT, wipe, R.d_v, R.d_o, R.d_k, R.st_v, R.st_o, R.st_k, binD, cmpD, truth, isinD, ix_d, ix_l, ix_t, get_d, e_get, e_rev, e_scons, x_par3, aI0, aI1, b1_len_d, b1_int, b1_intb, b1_sorted_d, partD, slcD, b1_len_l, b1_len_t, b1_len_s, b1_abs, b1_all, b1_any, b1_sum, b1_tup_l, b1_tup_t, b1_lst_l, b1_lst_t, b1_max, b1_min, b1_sorted, b2D, iscD, items, begin_, List.map_cons, List.map_nil, List.replicate_succ, List.replicate_zero, List.nil_append, List.cons_append, List.getElem?_cons_zero, List.getElem?_cons_succ, List.set_cons_zero, List.set_cons_succ, Option.bind_some, Option.map_some, Nat.reduceSub, Nat.reduceAdd, Int.toNat_natCast, Bool.not_false, Bool.not_true, okK_none]
  refine ⟨by omega, ?_⟩
  obtain ⟨h1, h2⟩ := hO t ((m : Nat) + 1) (by omega)
  obtain ⟨j, hj⟩ : ∃ j : Nat, (O t ((m : Nat) + 1)).1 = (j : Int) := ⟨(O t ((m : Nat) + 1)).1.toNat, by omega⟩
  rw [hj] at h2 ⊢
  rw [Int.toNat_natCast, rangeD_len]
  refine ⟨by constructor <;> omega, by rw [sizeLine_eq]; omega, ?_⟩
  refine cmp_inv (fun d => ∃ x : Int, d = .int x ∧ small x) _ _ (fun x hx t' => ?_) fun ys t' hl hy => ?_
  · simp only [e_var, v_v, v_o, e_non, e_bl, e_int, e_str, e_nil, e_dnil, e_cons, con_, e_tup, ls_, e_lst, e_bin, e_neg, int_, e_nt, e_and, e_or, e_ife, e_cmp, e_isc, e_call, e_pick, pick_, e_b1, e_b2, e_isin, e_ix, e_slc, e_rng1, e_rng2, e_enm, e_zp, zp_l, zp_t, e_comp, turn_, oc_s, oc_n, cmp_nil, cmp_cons, x_asg, x_par, x_sto, sto_, x_app, app_, x_ext, ext_, x_ex, x_pop, pop_, x_popj, x_ret, ret_v, ret_o, ret_k, x_ifs, x_brk, x_cnt, x_pas, sq_n, sq_b, sq_c, sq_r, x_seq, forB_, x_fr, whlC_, x_whl, okK_some, okK_ite, okK_map, okK_bind, trK_t, trK_f, trK_map, K2_some, K3_some, frz, bindT, wipe, R.d_v, R.d_o, R.d_k, R.st_v, R.st_o, R.st_k, binD, cmpD, truth, isinD, ix_d, ix_l, ix_t, get_d, e_get, e_rev, e_scons, x_par3, aI0, aI1, b1_len_d, b1_int, b1_intb, b1_sorted_d, partD, slcD, b1_len_l, b1_len_t, b1_len_s, b1_abs, b1_all, b1_any, b1_sum, b1_tup_l, b1_tup_t, b1_lst_l, b1_lst_t, b1_max, b1_min, b1_sorted, b2D, iscD, items, begin_, List.map_cons, List.map_nil, List.replicate_succ, List.replicate_zero, List.nil_append, List.cons_append, List.getElem?_cons_zero, List.getElem?_cons_succ, List.set_cons_zero, List.set_cons_succ, Option.bind_some, Option.map_some, Nat.reduceSub, Nat.reduceAdd, Int.toNat_natCast, Bool.not_false, Bool.not_true, okK_none]
    refine ⟨by decide, by rw [sizeLine_eq]; show 8 ≤ 16777216; decide, ?_⟩
    refine s_of n hO (by simp) (by show 8 < 1073741824; decide) fun d hd t2 => ?_
    refine ⟨d, rfl, ?_⟩
    simp only [List.mem_cons, List.not_mem_nil, or_false] at hd
    rcases hd with rfl | rfl | rfl | rfl | rfl | rfl | rfl | rfl <;> exact ⟨_, rfl, _, rfl, by unfold small; decide⟩
  · obtain ⟨xs, rfl, hs⟩ := ints_of hy
    rw [List.length_map, rangeD_len] at hl
    refine pops rfl (by omega) ?_
    simp only [e_var, v_v, v_o, e_non, e_bl, e_int, e_str, e_nil, e_dnil, e_cons, con_, e_tup, ls_, e_lst, e_bin, e_neg, int_, e_nt, e_and, e_or, e_ife, e_cmp, e_isc, e_call, e_pick, pick_, e_b1, e_b2, e_isin, e_ix, e_slc, e_rng1, e_rng2, e_enm, e_zp, zp_l, zp_t, e_comp, turn_, oc_s, oc_n, cmp_nil, cmp_cons, x_asg, x_par, x_sto, sto_, x_app, app_, x_ext, ext_, x_ex, x_pop, pop_, x_popj, x_ret, ret_v, ret_o, ret_k, x_ifs, x_brk, x_cnt, x_pas, sq_n, sq_b, sq_c, sq_r, x_seq, forB_, x_fr, whlC_, x_whl, okK_some, okK_ite, okK_map, okK_bind, trK_t, trK_f, trK_map, K2_some, K3_some, frz, bindT, wipe, R.d_v, R.d_o, R.d_k, R.st_v, R.st_o, R.st_k, binD, cmpD, truth, isinD, ix_d, ix_l, ix_t, get_d, e_get, e_rev, e_scons, x_par3, aI0, aI1, b1_len_d, b1_int, b1_intb, b1_sorted_d, partD, slcD, b1_len_l, b1_len_t, b1_len_s, b1_abs, b1_all, b1_any, b1_sum, b1_tup_l, b1_tup_t, b1_lst_l, b1_lst_t, b1_max, b1_min, b1_sorted, b2D, iscD, items, begin_, List.map_cons, List.map_nil, List.replicate_succ, List.replicate_zero, List.nil_append, List.cons_append, List.getElem?_cons_zero, List.getElem?_cons_succ, List.set_cons_zero, List.set_cons_succ, Option.bind_some, Option.map_some, Nat.reduceSub, Nat.reduceAdd, Int.toNat_natCast, Bool.not_false, Bool.not_true, okK_none]
    exact q xs (by omega) hs t'
theorem s_isrow (n : Nat) {xs : List Int} {t : τ} (hl : xs.length ≤ 1000) {Q : R → τ → Prop} (q : Q (.v (.bl (decide (xs.getLast? ≠ some 0)))) t) : K2 (run O W prog (n + 2) i_is_row [.tup (I xs)] t) Q := by
  refine run_ (fn := f_is_row) rfl rfl ?_
  unfold f_is_row b_is_row
  simp only [e_var, v_v, v_o, e_non, e_bl, e_int, e_str, e_nil, e_dnil, e_cons, con_, e_tup, ls_, e_lst, e_bin, e_neg, int_, e_nt, e_and, e_or, e_ife, e_cmp, e_isc, e_call, e_pick, pick_, e_b1, e_b2, e_isin, e_ix, e_slc, e_rng1, e_rng2, e_enm, e_zp, zp_l, zp_t, e_comp, turn_, oc_s, oc_n, cmp_nil, cmp_cons, x_asg, x_par, x_sto, sto_, x_app, app_, x_ext, ext_, x_ex, x_pop, pop_, x_popj, x_ret, ret_v, ret_o, ret_k, x_ifs, x_brk, x_cnt, x_pas, sq_n, sq_b, sq_c, sq_r, x_seq, forB_, x_fr, whlC_, x_whl, okK_some, okK_ite, okK_map, okK_bind, trK_t, trK_f, trK_map, K2_some, K3_some, frz, bindT, wipe, R.d_v, R.d_o, R.d_k, R.st_v, R.st_o, R.st_k, binD, cmpD, truth, isinD, ix_d, ix_l, ix_t, get_d, e_get, e_rev, e_scons, x_par3, aI0, aI1, b1_len_d, b1_int, b1_intb, b1_sorted_d, partD, slcD, b1_len_l, b1_len_t, b1_len_s, b1_abs, b1_all, b1_any, b1_sum, b1_tup_l, b1_tup_t, b1_lst_l, b1_lst_t, b1_max, b1_min, b1_sorted, b2D, iscD, items, begin_, List.map_cons, List.map_nil, List.replicate_succ, List.replicate_zero, List.nil_append, List.cons_append, List.getElem?_cons_zero, List.getElem?_cons_succ, List.set_cons_zero, List.set_cons_succ, Option.bind_some, Option.map_some, Nat.reduceSub, Nat.reduceAdd, Int.toNat_natCast, Bool.not_false, Bool.not_true, okK_none]
  refine ⟨by rw [List.length_map, sizeLine_eq]; omega, ?_⟩
  refine cmp_map (fun d => .bl (isI d)) _ _ (fun d hd => ?_) ?_
  · simp only [e_var, v_v, v_o, e_non, e_bl, e_int, e_str, e_nil, e_dnil, e_cons, con_, e_tup, ls_, e_lst, e_bin, e_neg, int_, e_nt, e_and, e_or, e_ife, e_cmp, e_isc, e_call, e_pick, pick_, e_b1, e_b2, e_isin, e_ix, e_slc, e_rng1, e_rng2, e_enm, e_zp, zp_l, zp_t, e_comp, turn_, oc_s, oc_n, cmp_nil, cmp_cons, x_asg, x_par, x_sto, sto_, x_app, app_, x_ext, ext_, x_ex, x_pop, pop_, x_popj, x_ret, ret_v, ret_o, ret_k, x_ifs, x_brk, x_cnt, x_pas, sq_n, sq_b, sq_c, sq_r, x_seq, forB_, x_fr, whlC_, x_whl, okK_some, okK_ite, okK_map, okK_bind, trK_t, trK_f, trK_map, K2_some, K3_some, frz, bindT, wipe, R.d_v, R.d_o, R.d_k, R.st_v, R.st_o, R.st_k, binD, cmpD, truth, isinD, ix_d, ix_l, ix_t, get_d, e_get, e_rev, e_scons, x_par3, aI0, aI1, b1_len_d, b1_int, b1_intb, b1_sorted_d, partD, slcD, b1_len_l, b1_len_t, b1_len_s, b1_abs, b1_all, b1_any, b1_sum, b1_tup_l, b1_tup_t, b1_lst_l, b1_lst_t, b1_max, b1_min, b1_sorted, b2D, iscD, items, begin_, List.map_cons, List.map_nil, List.replicate_succ, List.replicate_zero, List.nil_append, List.cons_append, List.getElem?_cons_zero, List.getElem?_cons_succ, List.set_cons_zero, List.set_cons_succ, Option.bind_some, Option.map_some, Nat.reduceSub, Nat.reduceAdd, Int.toNat_natCast, Bool.not_false, Bool.not_true, okK_none]
    simp only [List.mem_map] at hd
    obtain ⟨x, _, rfl⟩ := hd
    exact s_int n (by simp) ⟨_, rfl, rfl, rfl⟩
  · have e : (I xs).map (fun d => D.bl (isI d)) = (xs.map fun _ => true).map .bl := by simp [I, isI, Function.comp]
    rw [e, boolsD_I]
    have e2 : (xs.map fun _ => true).all id = true := by simp
    simp only [e_var, v_v, v_o, e_non, e_bl, e_int, e_str, e_nil, e_dnil, e_cons, con_, e_tup, ls_, e_lst, e_bin, e_neg, int_, e_nt, e_and, e_or, e_ife, e_cmp, e_isc, e_call, e_pick, pick_, e_b1, e_b2, e_isin, e_ix, e_slc, e_rng1, e_rng2, e_enm, e_zp, zp_l, zp_t, e_comp, turn_, oc_s, oc_n, cmp_nil, cmp_cons, x_asg, x_par, x_sto, sto_, x_app, app_, x_ext, ext_, x_ex, x_pop, pop_, x_popj, x_ret, ret_v, ret_o, ret_k, x_ifs, x_brk, x_cnt, x_pas, sq_n, sq_b, sq_c, sq_r, x_seq, forB_, x_fr, whlC_, x_whl, okK_some, okK_ite, okK_map, okK_bind, trK_t, trK_f, trK_map, K2_some, K3_some, frz, bindT, wipe, R.d_v, R.d_o, R.d_k, R.st_v, R.st_o, R.st_k, binD, cmpD, truth, isinD, ix_d, ix_l, ix_t, get_d, e_get, e_rev, e_scons, x_par3, aI0, aI1, b1_len_d, b1_int, b1_intb, b1_sorted_d, partD, slcD, b1_len_l, b1_len_t, b1_len_s, b1_abs, b1_all, b1_any, b1_sum, b1_tup_l, b1_tup_t, b1_lst_l, b1_lst_t, b1_max, b1_min, b1_sorted, b2D, iscD, items, begin_, List.map_cons, List.map_nil, List.replicate_succ, List.replicate_zero, List.nil_append, List.cons_append, List.getElem?_cons_zero, List.getElem?_cons_succ, List.set_cons_zero, List.set_cons_succ, Option.bind_some, Option.map_some, Nat.reduceSub, Nat.reduceAdd, Int.toNat_natCast, Bool.not_false, Bool.not_true, okK_none, e2, Bool.not_true, eq_tup_nil]
    refine ⟨Nat.zero_le _, ?_⟩
    by_cases h0 : xs = []
    · subst h0
      exact .inl ⟨rfl, q⟩
    · refine .inr ⟨by simp [h0], ?_⟩
      obtain ⟨ys, z, rfl⟩ : ∃ ys z, xs = ys ++ [z] := ⟨xs.dropLast, xs.getLast h0, (List.dropLast_concat_getLast h0).symm⟩
      rw [atI_lastI]
      simp only [e_var, v_v, v_o, e_non, e_bl, e_int, e_str, e_nil, e_dnil, e_cons, con_, e_tup, ls_, e_lst, e_bin, e_neg, int_, e_nt, e_and, e_or, e_ife, e_cmp, e_isc, e_call, e_pick, pick_, e_b1, e_b2, e_isin, e_ix, e_slc, e_rng1, e_rng2, e_enm, e_zp, zp_l, zp_t, e_comp, turn_, oc_s, oc_n, cmp_nil, cmp_cons, x_asg, x_par, x_sto, sto_, x_app, app_, x_ext, ext_, x_ex, x_pop, pop_, x_popj, x_ret, ret_v, ret_o, ret_k, x_ifs, x_brk, x_cnt, x_pas, sq_n, sq_b, sq_c, sq_r, x_seq, forB_, x_fr, whlC_, x_whl, okK_some, okK_ite, okK_map, okK_bind, trK_t, trK_f, trK_map, K2_some, K3_some, frz, bindT, wipe, R.d_v, R.d_o, R.d_k, R.st_v, R.st_o, R.st_k, binD, cmpD, truth, isinD, ix_d, ix_l, ix_t, get_d, e_get, e_rev, e_scons, x_par3, aI0, aI1, b1_len_d, b1_int, b1_intb, b1_sorted_d, partD, slcD, b1_len_l, b1_len_t, b1_len_s, b1_abs, b1_all, b1_any, b1_sum, b1_tup_l, b1_tup_t, b1_lst_l, b1_lst_t, b1_max, b1_min, b1_sorted, b2D, iscD, items, begin_, List.map_cons, List.map_nil, List.replicate_succ, List.replicate_zero, List.nil_append, List.cons_append, List.getElem?_cons_zero, List.getElem?_cons_succ, List.set_cons_zero, List.set_cons_succ, Option.bind_some, Option.map_some, Nat.reduceSub, Nat.reduceAdd, Int.toNat_natCast, Bool.not_false, Bool.not_true, okK_none, eq_int]
      have e3 : decide ((ys ++ [z]).getLast? ≠ some 0) = !(z == 0) := by
        by_cases hz : z = 0 <;> simp [hz]
      rw [e3] at q
      exact q
theorem s_norow (n : Nat) {ds : List D} {t : τ} (hl : ds.length ≤ 1000) (hs : ∀ d ∈ ds, d ≠ .src) (hn : ds.all isI = false) {Q : R → τ → Prop} (q : Q (.v (.bl false)) t) : K2 (run O W prog (n + 2) i_is_row [.tup ds] t) Q := by
  refine run_ (fn := f_is_row) rfl rfl ?_
  unfold f_is_row b_is_row
  simp only [e_var, v_v, v_o, e_non, e_bl, e_int, e_str, e_nil, e_dnil, e_cons, con_, e_tup, ls_, e_lst, e_bin, e_neg, int_, e_nt, e_and, e_or, e_ife, e_cmp, e_isc, e_call, e_pick, pick_, e_b1, e_b2, e_isin, e_ix, e_slc, e_rng1, e_rng2, e_enm, e_zp, zp_l, zp_t, e_comp, turn_, oc_s, oc_n, cmp_nil, cmp_cons, x_asg, x_par, x_sto, sto_, x_app, app_, x_ext, ext_, x_ex, x_pop, pop_, x_popj, x_ret, ret_v, ret_o, ret_k, x_ifs, x_brk, x_cnt, x_pas, sq_n, sq_b, sq_c, sq_r, x_seq, forB_, x_fr, whlC_, x_whl, okK_some, okK_ite, okK_map, okK_bind, trK_t, trK_f, trK_map, K2_some, K3_some, frz, bindT, wipe, R.d_v, R.d_o, R.d_k, R.st_v, R.st_o, R.st_k, binD, cmpD, truth, isinD, ix_d, ix_l, ix_t, get_d, e_get, e_rev, e_scons, x_par3, aI0, aI1, b1_len_d, b1_int, b1_intb, b1_sorted_d, partD, slcD, b1_len_l, b1_len_t, b1_len_s, b1_abs, b1_all, b1_any, b1_sum, b1_tup_l, b1_tup_t, b1_lst_l, b1_lst_t, b1_max, b1_min, b1_sorted, b2D, iscD, items, begin_, List.map_cons, List.map_nil, List.replicate_succ, List.replicate_zero, List.nil_append, List.cons_append, List.getElem?_cons_zero, List.getElem?_cons_succ, List.set_cons_zero, List.set_cons_succ, Option.bind_some, Option.map_some, Nat.reduceSub, Nat.reduceAdd, Int.toNat_natCast, Bool.not_false, Bool.not_true, okK_none]
  refine ⟨by rw [sizeLine_eq]; omega, ?_⟩
  refine cmp_map (fun d => .bl (isI d)) _ _ (fun d hd => ?_) ?_
  · simp only [e_var, v_v, v_o, e_non, e_bl, e_int, e_str, e_nil, e_dnil, e_cons, con_, e_tup, ls_, e_lst, e_bin, e_neg, int_, e_nt, e_and, e_or, e_ife, e_cmp, e_isc, e_call, e_pick, pick_, e_b1, e_b2, e_isin, e_ix, e_slc, e_rng1, e_rng2, e_enm, e_zp, zp_l, zp_t, e_comp, turn_, oc_s, oc_n, cmp_nil, cmp_cons, x_asg, x_par, x_sto, sto_, x_app, app_, x_ext, ext_, x_ex, x_pop, pop_, x_popj, x_ret, ret_v, ret_o, ret_k, x_ifs, x_brk, x_cnt, x_pas, sq_n, sq_b, sq_c, sq_r, x_seq, forB_, x_fr, whlC_, x_whl, okK_some, okK_ite, okK_map, okK_bind, trK_t, trK_f, trK_map, K2_some, K3_some, frz, bindT, wipe, R.d_v, R.d_o, R.d_k, R.st_v, R.st_o, R.st_k, binD, cmpD, truth, isinD, ix_d, ix_l, ix_t, get_d, e_get, e_rev, e_scons, x_par3, aI0, aI1, b1_len_d, b1_int, b1_intb, b1_sorted_d, partD, slcD, b1_len_l, b1_len_t, b1_len_s, b1_abs, b1_all, b1_any, b1_sum, b1_tup_l, b1_tup_t, b1_lst_l, b1_lst_t, b1_max, b1_min, b1_sorted, b2D, iscD, items, begin_, List.map_cons, List.map_nil, List.replicate_succ, List.replicate_zero, List.nil_append, List.cons_append, List.getElem?_cons_zero, List.getElem?_cons_succ, List.set_cons_zero, List.set_cons_succ, Option.bind_some, Option.map_some, Nat.reduceSub, Nat.reduceAdd, Int.toNat_natCast, Bool.not_false, Bool.not_true, okK_none]
    exact s_int n (hs d hd) ⟨_, rfl, rfl, rfl⟩
  · have e : ds.map (fun d => D.bl (isI d)) = (ds.map isI).map .bl := by simp [Function.comp]
    rw [e, boolsD_I]
    have e2 : (ds.map isI).all id = false := by rw [List.all_map]; exact hn
    simp only [e_var, v_v, v_o, e_non, e_bl, e_int, e_str, e_nil, e_dnil, e_cons, con_, e_tup, ls_, e_lst, e_bin, e_neg, int_, e_nt, e_and, e_or, e_ife, e_cmp, e_isc, e_call, e_pick, pick_, e_b1, e_b2, e_isin, e_ix, e_slc, e_rng1, e_rng2, e_enm, e_zp, zp_l, zp_t, e_comp, turn_, oc_s, oc_n, cmp_nil, cmp_cons, x_asg, x_par, x_sto, sto_, x_app, app_, x_ext, ext_, x_ex, x_pop, pop_, x_popj, x_ret, ret_v, ret_o, ret_k, x_ifs, x_brk, x_cnt, x_pas, sq_n, sq_b, sq_c, sq_r, x_seq, forB_, x_fr, whlC_, x_whl, okK_some, okK_ite, okK_map, okK_bind, trK_t, trK_f, trK_map, K2_some, K3_some, frz, bindT, wipe, R.d_v, R.d_o, R.d_k, R.st_v, R.st_o, R.st_k, binD, cmpD, truth, isinD, ix_d, ix_l, ix_t, get_d, e_get, e_rev, e_scons, x_par3, aI0, aI1, b1_len_d, b1_int, b1_intb, b1_sorted_d, partD, slcD, b1_len_l, b1_len_t, b1_len_s, b1_abs, b1_all, b1_any, b1_sum, b1_tup_l, b1_tup_t, b1_lst_l, b1_lst_t, b1_max, b1_min, b1_sorted, b2D, iscD, items, begin_, List.map_cons, List.map_nil, List.replicate_succ, List.replicate_zero, List.nil_append, List.cons_append, List.getElem?_cons_zero, List.getElem?_cons_succ, List.set_cons_zero, List.set_cons_succ, Option.bind_some, Option.map_some, Nat.reduceSub, Nat.reduceAdd, Int.toNat_natCast, Bool.not_false, Bool.not_true, okK_none, e2, Bool.not_false]
    exact q
theorem s_notup (n : Nat) {d : D} {t : τ} (hd : isinD .tup d = some false) {Q : R → τ → Prop} (q : Q (.v (.bl false)) t) : K2 (run O W prog (n + 2) i_is_row [d] t) Q := by
  refine run_ (fn := f_is_row) rfl rfl ?_
  unfold f_is_row b_is_row
  cases d <;> first | (cases hd; done) | (simp only [e_var, v_v, v_o, e_non, e_bl, e_int, e_str, e_nil, e_dnil, e_cons, con_, e_tup, ls_, e_lst, e_bin, e_neg, int_, e_nt, e_and, e_or, e_ife, e_cmp, e_isc, e_call, e_pick, pick_, e_b1, e_b2, e_isin, e_ix, e_slc, e_rng1, e_rng2, e_enm, e_zp, zp_l, zp_t, e_comp, turn_, oc_s, oc_n, cmp_nil, cmp_cons, x_asg, x_par, x_sto, sto_, x_app, app_, x_ext, ext_, x_ex, x_pop, pop_, x_popj, x_ret, ret_v, ret_o, ret_k, x_ifs, x_brk, x_cnt, x_pas, sq_n, sq_b, sq_c, sq_r, x_seq, forB_, x_fr, whlC_, x_whl, okK_some, okK_ite, okK_map, okK_bind, trK_t, trK_f, trK_map, K2_some, K3_some, frz, bindT, wipe, R.d_v, R.d_o, R.d_k, R.st_v, R.st_o, R.st_k, binD, cmpD, truth, isinD, ix_d, ix_l, ix_t, get_d, e_get, e_rev, e_scons, x_par3, aI0, aI1, b1_len_d, b1_int, b1_intb, b1_sorted_d, partD, slcD, b1_len_l, b1_len_t, b1_len_s, b1_abs, b1_all, b1_any, b1_sum, b1_tup_l, b1_tup_t, b1_lst_l, b1_lst_t, b1_max, b1_min, b1_sorted, b2D, iscD, items, begin_, List.map_cons, List.map_nil, List.replicate_succ, List.replicate_zero, List.nil_append, List.cons_append, List.getElem?_cons_zero, List.getElem?_cons_succ, List.set_cons_zero, List.set_cons_succ, Option.bind_some, Option.map_some, Nat.reduceSub, Nat.reduceAdd, Int.toNat_natCast, Bool.not_false, Bool.not_true, okK_none]; exact q)
/-! products -/
theorem enum_get : ∀ (xs : List Int) (k i : Nat) (d : D), (enumD k (I xs))[i]? = some d → i < xs.length ∧ d = .tup [.int ((k + i : Nat) : Int), .int (xs.getD i 0)]
  | [], k, i, d, h => by simp [enumD] at h
  | x :: xs, k, 0, d, h => by
    have : D.tup [.int (k : Nat), .int x] = d := by simpa [enumD] using h
    exact ⟨by simp, this.symm⟩
  | x :: xs, k, i + 1, d, h => by
    have h' : (enumD (k + 1) (I xs))[i]? = some d := by simpa [enumD] using h
    obtain ⟨h1, h2⟩ := enum_get xs (k + 1) i d h'
    refine ⟨by simpa using h1, ?_⟩
    rw [h2, show k + 1 + i = k + (i + 1) by omega]
    rfl
end PyI

set_option Elab.async false
set_option linter.all false
set_option maxRecDepth 100000
set_option maxHeartbeats 4000000
/-! fractions -/
namespace PyI
open PySem PySem.Spec PyProof.Rows Rw
variable {τ : Type} {O : Pk τ} {W : Nat}
abbrev Qd (x : Rat) : D := .tup [.int x.num, .int (x.den : Int)]
def bits (k : Nat) (x : Rat) : Prop := x.num.natAbs ≤ 2 ^ k ∧ x.den ≤ 2 ^ k
theorem split_gcd {p q : Int} (hq : q ≠ 0) : ∃ (g : Nat) (a b : Int), 0 < g ∧ Nat.gcd p.natAbs q.natAbs = g ∧ p = g * a ∧ q = g * b ∧ b ≠ 0 := by
  have h1 : ((Nat.gcd p.natAbs q.natAbs : Nat) : Int) ∣ p := Int.ofNat_dvd_left.mpr (Nat.gcd_dvd_left ..)
  have h2 : ((Nat.gcd p.natAbs q.natAbs : Nat) : Int) ∣ q := Int.ofNat_dvd_left.mpr (Nat.gcd_dvd_right ..)
  obtain ⟨a, ha⟩ := h1
  obtain ⟨b, hb⟩ := h2
  refine ⟨_, a, b, Nat.gcd_pos_of_pos_right _ (by omega), rfl, ha, hb, fun z => ?_⟩
  rw [z, Int.mul_zero] at hb
  exact hq hb
theorem frac_gen {p q : Int} (hq : q ≠ 0) {g : Int} (hg : g = if 0 < q then ((Nat.gcd p.natAbs q.natAbs : Nat) : Int) else -((Nat.gcd p.natAbs q.natAbs : Nat) : Int)) :
    g ≠ 0 ∧ g.natAbs ≤ q.natAbs ∧ p.fdiv g = (Rat.divInt p q).num ∧ q.fdiv g = ((Rat.divInt p q).den : Int) := by
  obtain ⟨n, a, b, hn, e, hp, hqb, hb⟩ := split_gcd (p := p) hq
  rw [e] at hg
  have hgn : g.natAbs = n := by subst hg; split <;> omega
  have e2 : q.gcd p = n := by rw [Int.gcd_comm]; exact e
  rw [Rat.num_divInt, Rat.den_divInt, if_neg hq, e2]
  have hq' : q.natAbs = n * b.natAbs := by rw [hqb, Int.natAbs_mul, Int.natAbs_natCast]
  refine ⟨by omega, ?_, ?_, ?_⟩
  · rw [hgn, hq']
    exact Nat.le_mul_of_pos_right _ (by omega)
  · by_cases hpos : 0 < q
    · rw [if_pos hpos] at hg
      rw [Int.sign_eq_one_of_pos hpos, hg, hp, Int.mul_fdiv_cancel_left _ (by omega), Int.one_mul, Int.mul_ediv_cancel_left _ (by omega)]
    · rw [if_neg hpos] at hg
      rw [Int.sign_eq_neg_one_of_neg (by omega), hg, hp, show (-1 : Int) * ((n : Int) * a) = (n : Int) * (-a) by grind, Int.mul_ediv_cancel_left _ (by omega), show (n : Int) * a = (-(n : Int)) * (-a) by grind, Int.mul_fdiv_cancel_left _ (by omega)]
  · rw [hq', Nat.mul_div_cancel_left _ hn]
    by_cases hpos : 0 < q
    · rw [if_pos hpos] at hg
      rw [hg, hqb, Int.mul_fdiv_cancel_left _ (by omega)]
      have : 0 < b := by
        rcases Int.lt_trichotomy b 0 with h | h | h
        · rw [hqb] at hpos
          have := Int.mul_neg_of_pos_of_neg (show (0 : Int) < n by omega) h
          omega
        · exact absurd h hb
        · exact h
      omega
    · rw [if_neg hpos] at hg
      rw [hg, hqb, show (n : Int) * b = (-(n : Int)) * (-b) by grind, Int.mul_fdiv_cancel_left _ (by omega)]
      have : b < 0 := by
        rcases Int.lt_trichotomy b 0 with h | h | h
        · exact h
        · exact absurd h hb
        · rw [hqb] at hpos
          have := Int.mul_pos (show (0 : Int) < n by omega) h
          omega
      omega
theorem div_bits {p q : Int} (hq : q ≠ 0) : (Rat.divInt p q).num.natAbs ≤ p.natAbs ∧ (Rat.divInt p q).den ≤ q.natAbs := by
  obtain ⟨n, a, b, hn, e, hp, hqb, hb⟩ := split_gcd (p := p) hq
  have e2 : q.gcd p = n := by rw [Int.gcd_comm]; exact e
  have hp' : p.natAbs = n * a.natAbs := by rw [hp, Int.natAbs_mul, Int.natAbs_natCast]
  have hq' : q.natAbs = n * b.natAbs := by rw [hqb, Int.natAbs_mul, Int.natAbs_natCast]
  rw [Rat.num_divInt, Rat.den_divInt, if_neg hq, e2]
  constructor
  · refine Nat.le_trans (Int.natAbs_ediv_le_natAbs _ _) ?_
    rw [Int.natAbs_mul]
    have : q.sign.natAbs ≤ 1 := by
      rcases Int.lt_trichotomy q 0 with h | h | h
      · rw [Int.sign_eq_neg_one_of_neg h]; decide
      · exact absurd h hq
      · rw [Int.sign_eq_one_of_pos h]; decide
    exact Nat.le_trans (Nat.mul_le_mul_right _ this) (by omega)
  · exact Nat.div_le_self ..
theorem rat_nd (x : Rat) : x = (x.num : Rat) / ((x.den : Int) : Rat) := by
  rw [← Rat.divInt_eq_div]
  exact (Rat.num_divInt_den x).symm
theorem den_ne (x : Rat) : ((x.den : Int) : Rat) ≠ 0 := by
  have := x.den_nz
  intro h
  have : ((x.den : Int)) = 0 := by exact_mod_cast h
  omega
theorem den_neI (x : Rat) : (x.den : Int) ≠ 0 := by have := x.den_nz; omega
theorem q_add (x y : Rat) : Rat.divInt (x.num * y.den + y.num * x.den) (x.den * y.den) = x + y := by
  have e1 := rat_nd x
  have e2 := rat_nd y
  have d1 := den_ne x
  have d2 := den_ne y
  rw [Rat.divInt_eq_div]
  simp only [Rat.intCast_add, Rat.intCast_mul]
  generalize (x.num : Rat) = a at *
  generalize (y.num : Rat) = b at *
  generalize ((x.den : Int) : Rat) = c at *
  generalize ((y.den : Int) : Rat) = d at *
  subst e1 e2
  grind
theorem q_sub (x y : Rat) : Rat.divInt (x.num * y.den - y.num * x.den) (x.den * y.den) = x - y := by
  have e1 := rat_nd x
  have e2 := rat_nd y
  have d1 := den_ne x
  have d2 := den_ne y
  rw [Rat.divInt_eq_div]
  simp only [Rat.intCast_sub, Rat.intCast_mul]
  generalize (x.num : Rat) = a at *
  generalize (y.num : Rat) = b at *
  generalize ((x.den : Int) : Rat) = c at *
  generalize ((y.den : Int) : Rat) = d at *
  subst e1 e2
  grind
theorem q_mul (x y : Rat) : Rat.divInt (x.num * y.num) (x.den * y.den) = x * y := by
  have e1 := rat_nd x
  have e2 := rat_nd y
  have d1 := den_ne x
  have d2 := den_ne y
  rw [Rat.divInt_eq_div]
  simp only [Rat.intCast_mul]
  generalize (x.num : Rat) = a at *
  generalize (y.num : Rat) = b at *
  generalize ((x.den : Int) : Rat) = c at *
  generalize ((y.den : Int) : Rat) = d at *
  subst e1 e2
  grind
theorem q_scale (c : Int) (x : Rat) : Rat.divInt (c * x.num) x.den = (c : Rat) * x := by
  have e1 := rat_nd x
  have d1 := den_ne x
  rw [Rat.divInt_eq_div]
  simp only [Rat.intCast_mul]
  generalize (x.num : Rat) = a at *
  generalize ((x.den : Int) : Rat) = d at *
  subst e1
  grind
theorem pow_le2 {a b : Nat} (h : a ≤ b) : 2 ^ a ≤ 2 ^ b := Nat.pow_le_pow_right (by omega) h
theorem mul_le2 {x y : Int} {a b : Nat} (hx : x.natAbs ≤ 2 ^ a) (hy : y.natAbs ≤ 2 ^ b) : (x * y).natAbs ≤ 2 ^ (a + b) := by
  rw [Int.natAbs_mul, Nat.pow_add]
  exact Nat.mul_le_mul hx hy
theorem add_le2 {x y : Int} {a : Nat} (hx : x.natAbs ≤ 2 ^ a) (hy : y.natAbs ≤ 2 ^ a) : (x + y).natAbs ≤ 2 ^ (a + 1) := by
  rw [Nat.pow_succ]
  omega
theorem sub_le2 {x y : Int} {a : Nat} (hx : x.natAbs ≤ 2 ^ a) (hy : y.natAbs ≤ 2 ^ a) : (x - y).natAbs ≤ 2 ^ (a + 1) := by
  rw [Nat.pow_succ]
  omega
theorem mulM {i j : Int} {a b : Nat} (hi : i.natAbs ≤ 2 ^ a) (hj : j.natAbs ≤ 2 ^ b) (h : a + b < 999998 := by omega) : i.natAbs.log2 + j.natAbs.log2 < 1000000 :=
  mulL (a := a + 1) (b := b + 1) (by rw [Nat.pow_succ]; have := Nat.pow_pos (n := a) (show 0 < 2 by omega); omega) (by rw [Nat.pow_succ]; have := Nat.pow_pos (n := b) (show 0 < 2 by omega); omega) (by omega)
theorem logM {i : Nat} {a : Nat} (hi : i ≤ 2 ^ a) : i.log2 ≤ a + 1 := log2_le (by rw [Nat.pow_succ]; have := Nat.pow_pos (n := a) (show 0 < 2 by omega); omega)
theorem bits.mono {k m : Nat} {x : Rat} (h : bits k x) (l : k ≤ m) : bits m x := ⟨Nat.le_trans h.1 (pow_le2 l), Nat.le_trans h.2 (pow_le2 l)⟩
theorem bits.den {k : Nat} {x : Rat} (h : bits k x) : ((x.den : Int)).natAbs ≤ 2 ^ k := by rw [Int.natAbs_natCast]; exact h.2
theorem bits_div {p q : Int} {k : Nat} (hq : q ≠ 0) (h1 : p.natAbs ≤ 2 ^ k) (h2 : q.natAbs ≤ 2 ^ k) : bits k (Rat.divInt p q) := ⟨Nat.le_trans (div_bits hq).1 h1, Nat.le_trans (div_bits hq).2 h2⟩
theorem bits_add {x y : Rat} {k m : Nat} (h : bits k x) (h' : bits m y) : bits (k + m + 1) (x + y) := by
  rw [← q_add]
  refine bits_div (Int.mul_ne_zero (den_neI x) (den_neI y)) (add_le2 (mul_le2 h.1 h'.den) ?_) (Nat.le_trans (mul_le2 h.den h'.den) (pow_le2 (by omega)))
  rw [Nat.add_comm k m]
  exact mul_le2 h'.1 h.den
theorem bits_sub {x y : Rat} {k m : Nat} (h : bits k x) (h' : bits m y) : bits (k + m + 1) (x - y) := by
  rw [← q_sub]
  refine bits_div (Int.mul_ne_zero (den_neI x) (den_neI y)) (sub_le2 (mul_le2 h.1 h'.den) ?_) (Nat.le_trans (mul_le2 h.den h'.den) (pow_le2 (by omega)))
  rw [Nat.add_comm k m]
  exact mul_le2 h'.1 h.den
theorem bits_mul {x y : Rat} {k m : Nat} (h : bits k x) (h' : bits m y) : bits (k + m) (x * y) := by
  rw [← q_mul]
  exact bits_div (Int.mul_ne_zero (den_neI x) (den_neI y)) (mul_le2 h.1 h'.1) (mul_le2 h.den h'.den)
theorem bits_int {k : Nat} {i : Int} (h : i.natAbs ≤ 2 ^ k) : bits k (i : Rat) := ⟨h, by show 1 ≤ _; exact Nat.one_le_two_pow⟩
theorem s_fof (n : Nat) {p q : Int} {t : τ} {Q : R → τ → Prop} (hq : q ≠ 0) (hb : q.natAbs ≤ 2 ^ 8000) (c : Q (.v (Qd (Rat.divInt p q))) t) : K2 (run O W prog (n + 1) i_fraction_of [.int p, .int q] t) Q := by
  refine run_ (fn := f_fraction_of) rfl rfl ?_
  unfold f_fraction_of b_fraction_of
  simp only [e_var, v_v, v_o, e_non, e_bl, e_int, e_str, e_nil, e_dnil, e_cons, con_, e_tup, ls_, e_lst, e_bin, e_neg, int_, e_nt, e_and, e_or, e_ife, e_cmp, e_isc, e_call, e_pick, pick_, e_b1, e_b2, e_isin, e_ix, e_slc, e_rng1, e_rng2, e_enm, e_zp, zp_l, zp_t, e_comp, turn_, oc_s, oc_n, cmp_nil, cmp_cons, x_asg, x_par, x_sto, sto_, x_app, app_, x_ext, ext_, x_ex, x_pop, pop_, x_popj, x_ret, ret_v, ret_o, ret_k, x_ifs, x_brk, x_cnt, x_pas, sq_n, sq_b, sq_c, sq_r, x_seq, forB_, x_fr, whlC_, x_whl, okK_some, okK_ite, okK_map, okK_bind, trK_t, trK_f, trK_map, K2_some, K3_some, frz, bindT, wipe, R.d_v, R.d_o, R.d_k, R.st_v, R.st_o, R.st_k, binD, cmpD, truth, isinD, ix_d, ix_l, ix_t, get_d, e_get, e_rev, e_scons, x_par3, aI0, aI1, b1_len_d, b1_int, b1_intb, b1_sorted_d, partD, slcD, b1_len_l, b1_len_t, b1_len_s, b1_abs, b1_all, b1_any, b1_sum, b1_tup_l, b1_tup_t, b1_lst_l, b1_lst_t, b1_max, b1_min, b1_sorted, b2D, iscD, items, begin_, List.map_cons, List.map_nil, List.replicate_succ, List.replicate_zero, List.nil_append, List.cons_append, List.getElem?_cons_zero, List.getElem?_cons_succ, List.set_cons_zero, List.set_cons_succ, Option.bind_some, Option.map_some, Nat.reduceSub, Nat.reduceAdd, Int.toNat_natCast, Bool.not_false, Bool.not_true, okK_none, trK_b]
  have key : ∀ g : Int, (g = if 0 < q then ((Nat.gcd p.natAbs q.natAbs : Nat) : Int) else -((Nat.gcd p.natAbs q.natAbs : Nat) : Int)) → (g ≠ 0 ∧ g.natAbs.log2 < 9000) ∧ (g ≠ 0 ∧ g.natAbs.log2 < 9000) ∧ [D.int (p.fdiv g), D.int (q.fdiv g)].length ≤ sizeLine ∧ Q (.v (.tup [.int (p.fdiv g), .int (q.fdiv g)])) t := fun g hg => by
    obtain ⟨h1, h2, h3, h4⟩ := frac_gen hq hg
    have h5 : g.natAbs.log2 < 9000 := by
      have := logM (Nat.le_trans h2 hb)
      omega
    refine ⟨⟨h1, h5⟩, ⟨h1, h5⟩, by rw [sizeLine_eq]; show 2 ≤ 16777216; decide, ?_⟩
    rw [h3, h4]
    exact c
  constructor
  · intro h
    exact key _ (by rw [if_pos (of_decide_eq_true h)])
  · intro h
    exact key _ (by rw [if_neg (of_decide_eq_false h)])
theorem s_fsum (n : Nat) {x y : Rat} {k m : Nat} {t : τ} {Q : R → τ → Prop} (hx : bits k x) (hy : bits m y) (h : k + m ≤ 8000) (c : Q (.v (Qd (x + y))) t) : K2 (run O W prog (n + 2) i_fraction_sum [Qd x, Qd y] t) Q := by
  refine run_ (fn := f_fraction_sum) rfl rfl ?_
  unfold f_fraction_sum b_fraction_sum
  simp only [e_var, v_v, v_o, e_non, e_bl, e_int, e_str, e_nil, e_dnil, e_cons, con_, e_tup, ls_, e_lst, e_bin, e_neg, int_, e_nt, e_and, e_or, e_ife, e_cmp, e_isc, e_call, e_pick, pick_, e_b1, e_b2, e_isin, e_ix, e_slc, e_rng1, e_rng2, e_enm, e_zp, zp_l, zp_t, e_comp, turn_, oc_s, oc_n, cmp_nil, cmp_cons, x_asg, x_par, x_sto, sto_, x_app, app_, x_ext, ext_, x_ex, x_pop, pop_, x_popj, x_ret, ret_v, ret_o, ret_k, x_ifs, x_brk, x_cnt, x_pas, sq_n, sq_b, sq_c, sq_r, x_seq, forB_, x_fr, whlC_, x_whl, okK_some, okK_ite, okK_map, okK_bind, trK_t, trK_f, trK_map, K2_some, K3_some, frz, bindT, wipe, R.d_v, R.d_o, R.d_k, R.st_v, R.st_o, R.st_k, binD, cmpD, truth, isinD, ix_d, ix_l, ix_t, get_d, e_get, e_rev, e_scons, x_par3, aI0, aI1, b1_len_d, b1_int, b1_intb, b1_sorted_d, partD, slcD, b1_len_l, b1_len_t, b1_len_s, b1_abs, b1_all, b1_any, b1_sum, b1_tup_l, b1_tup_t, b1_lst_l, b1_lst_t, b1_max, b1_min, b1_sorted, b2D, iscD, items, begin_, List.map_cons, List.map_nil, List.replicate_succ, List.replicate_zero, List.nil_append, List.cons_append, List.getElem?_cons_zero, List.getElem?_cons_succ, List.set_cons_zero, List.set_cons_succ, Option.bind_some, Option.map_some, Nat.reduceSub, Nat.reduceAdd, Int.toNat_natCast, Bool.not_false, Bool.not_true, okK_none]
  refine ⟨mulM hx.1 hy.den, mulM hy.1 hx.den, mulM hx.den hy.den, ?_⟩
  refine s_fof n (Int.mul_ne_zero (den_neI x) (den_neI y)) (Nat.le_trans (mul_le2 hx.den hy.den) (pow_le2 h)) ?_
  rw [q_add]
  simp only [e_var, v_v, v_o, e_non, e_bl, e_int, e_str, e_nil, e_dnil, e_cons, con_, e_tup, ls_, e_lst, e_bin, e_neg, int_, e_nt, e_and, e_or, e_ife, e_cmp, e_isc, e_call, e_pick, pick_, e_b1, e_b2, e_isin, e_ix, e_slc, e_rng1, e_rng2, e_enm, e_zp, zp_l, zp_t, e_comp, turn_, oc_s, oc_n, cmp_nil, cmp_cons, x_asg, x_par, x_sto, sto_, x_app, app_, x_ext, ext_, x_ex, x_pop, pop_, x_popj, x_ret, ret_v, ret_o, ret_k, x_ifs, x_brk, x_cnt, x_pas, sq_n, sq_b, sq_c, sq_r, x_seq, forB_, x_fr, whlC_, x_whl, okK_some, okK_ite, okK_map, okK_bind, trK_t, trK_f, trK_map, K2_some, K3_some, frz, bindT, wipe, R.d_v, R.d_o, R.d_k, R.st_v, R.st_o, R.st_k, binD, cmpD, truth, isinD, ix_d, ix_l, ix_t, get_d, e_get, e_rev, e_scons, x_par3, aI0, aI1, b1_len_d, b1_int, b1_intb, b1_sorted_d, partD, slcD, b1_len_l, b1_len_t, b1_len_s, b1_abs, b1_all, b1_any, b1_sum, b1_tup_l, b1_tup_t, b1_lst_l, b1_lst_t, b1_max, b1_min, b1_sorted, b2D, iscD, items, begin_, List.map_cons, List.map_nil, List.replicate_succ, List.replicate_zero, List.nil_append, List.cons_append, List.getElem?_cons_zero, List.getElem?_cons_succ, List.set_cons_zero, List.set_cons_succ, Option.bind_some, Option.map_some, Nat.reduceSub, Nat.reduceAdd, Int.toNat_natCast, Bool.not_false, Bool.not_true, okK_none]
  exact c
theorem s_fless (n : Nat) {x y : Rat} {k m : Nat} {t : τ} {Q : R → τ → Prop} (hx : bits k x) (hy : bits m y) (h : k + m ≤ 8000) (c : Q (.v (Qd (x - y))) t) : K2 (run O W prog (n + 2) i_fraction_less [Qd x, Qd y] t) Q := by
  refine run_ (fn := f_fraction_less) rfl rfl ?_
  unfold f_fraction_less b_fraction_less
  simp only [e_var, v_v, v_o, e_non, e_bl, e_int, e_str, e_nil, e_dnil, e_cons, con_, e_tup, ls_, e_lst, e_bin, e_neg, int_, e_nt, e_and, e_or, e_ife, e_cmp, e_isc, e_call, e_pick, pick_, e_b1, e_b2, e_isin, e_ix, e_slc, e_rng1, e_rng2, e_enm, e_zp, zp_l, zp_t, e_comp, turn_, oc_s, oc_n, cmp_nil, cmp_cons, x_asg, x_par, x_sto, sto_, x_app, app_, x_ext, ext_, x_ex, x_pop, pop_, x_popj, x_ret, ret_v, ret_o, ret_k, x_ifs, x_brk, x_cnt, x_pas, sq_n, sq_b, sq_c, sq_r, x_seq, forB_, x_fr, whlC_, x_whl, okK_some, okK_ite, okK_map, okK_bind, trK_t, trK_f, trK_map, K2_some, K3_some, frz, bindT, wipe, R.d_v, R.d_o, R.d_k, R.st_v, R.st_o, R.st_k, binD, cmpD, truth, isinD, ix_d, ix_l, ix_t, get_d, e_get, e_rev, e_scons, x_par3, aI0, aI1, b1_len_d, b1_int, b1_intb, b1_sorted_d, partD, slcD, b1_len_l, b1_len_t, b1_len_s, b1_abs, b1_all, b1_any, b1_sum, b1_tup_l, b1_tup_t, b1_lst_l, b1_lst_t, b1_max, b1_min, b1_sorted, b2D, iscD, items, begin_, List.map_cons, List.map_nil, List.replicate_succ, List.replicate_zero, List.nil_append, List.cons_append, List.getElem?_cons_zero, List.getElem?_cons_succ, List.set_cons_zero, List.set_cons_succ, Option.bind_some, Option.map_some, Nat.reduceSub, Nat.reduceAdd, Int.toNat_natCast, Bool.not_false, Bool.not_true, okK_none]
  refine ⟨mulM hx.1 hy.den, mulM hy.1 hx.den, mulM hx.den hy.den, ?_⟩
  refine s_fof n (Int.mul_ne_zero (den_neI x) (den_neI y)) (Nat.le_trans (mul_le2 hx.den hy.den) (pow_le2 h)) ?_
  rw [q_sub]
  simp only [e_var, v_v, v_o, e_non, e_bl, e_int, e_str, e_nil, e_dnil, e_cons, con_, e_tup, ls_, e_lst, e_bin, e_neg, int_, e_nt, e_and, e_or, e_ife, e_cmp, e_isc, e_call, e_pick, pick_, e_b1, e_b2, e_isin, e_ix, e_slc, e_rng1, e_rng2, e_enm, e_zp, zp_l, zp_t, e_comp, turn_, oc_s, oc_n, cmp_nil, cmp_cons, x_asg, x_par, x_sto, sto_, x_app, app_, x_ext, ext_, x_ex, x_pop, pop_, x_popj, x_ret, ret_v, ret_o, ret_k, x_ifs, x_brk, x_cnt, x_pas, sq_n, sq_b, sq_c, sq_r, x_seq, forB_, x_fr, whlC_, x_whl, okK_some, okK_ite, okK_map, okK_bind, trK_t, trK_f, trK_map, K2_some, K3_some, frz, bindT, wipe, R.d_v, R.d_o, R.d_k, R.st_v, R.st_o, R.st_k, binD, cmpD, truth, isinD, ix_d, ix_l, ix_t, get_d, e_get, e_rev, e_scons, x_par3, aI0, aI1, b1_len_d, b1_int, b1_intb, b1_sorted_d, partD, slcD, b1_len_l, b1_len_t, b1_len_s, b1_abs, b1_all, b1_any, b1_sum, b1_tup_l, b1_tup_t, b1_lst_l, b1_lst_t, b1_max, b1_min, b1_sorted, b2D, iscD, items, begin_, List.map_cons, List.map_nil, List.replicate_succ, List.replicate_zero, List.nil_append, List.cons_append, List.getElem?_cons_zero, List.getElem?_cons_succ, List.set_cons_zero, List.set_cons_succ, Option.bind_some, Option.map_some, Nat.reduceSub, Nat.reduceAdd, Int.toNat_natCast, Bool.not_false, Bool.not_true, okK_none]
  exact c
theorem s_ftimes (n : Nat) {x y : Rat} {k m : Nat} {t : τ} {Q : R → τ → Prop} (hx : bits k x) (hy : bits m y) (h : k + m ≤ 8000) (c : Q (.v (Qd (x * y))) t) : K2 (run O W prog (n + 2) i_fraction_times [Qd x, Qd y] t) Q := by
  refine run_ (fn := f_fraction_times) rfl rfl ?_
  unfold f_fraction_times b_fraction_times
  simp only [e_var, v_v, v_o, e_non, e_bl, e_int, e_str, e_nil, e_dnil, e_cons, con_, e_tup, ls_, e_lst, e_bin, e_neg, int_, e_nt, e_and, e_or, e_ife, e_cmp, e_isc, e_call, e_pick, pick_, e_b1, e_b2, e_isin, e_ix, e_slc, e_rng1, e_rng2, e_enm, e_zp, zp_l, zp_t, e_comp, turn_, oc_s, oc_n, cmp_nil, cmp_cons, x_asg, x_par, x_sto, sto_, x_app, app_, x_ext, ext_, x_ex, x_pop, pop_, x_popj, x_ret, ret_v, ret_o, ret_k, x_ifs, x_brk, x_cnt, x_pas, sq_n, sq_b, sq_c, sq_r, x_seq, forB_, x_fr, whlC_, x_whl, okK_some, okK_ite, okK_map, okK_bind, trK_t, trK_f, trK_map, K2_some, K3_some, frz, bindT, wipe, R.d_v, R.d_o, R.d_k, R.st_v, R.st_o, R.st_k, binD, cmpD, truth, isinD, ix_d, ix_l, ix_t, get_d, e_get, e_rev, e_scons, x_par3, aI0, aI1, b1_len_d, b1_int, b1_intb, b1_sorted_d, partD, slcD, b1_len_l, b1_len_t, b1_len_s, b1_abs, b1_all, b1_any, b1_sum, b1_tup_l, b1_tup_t, b1_lst_l, b1_lst_t, b1_max, b1_min, b1_sorted, b2D, iscD, items, begin_, List.map_cons, List.map_nil, List.replicate_succ, List.replicate_zero, List.nil_append, List.cons_append, List.getElem?_cons_zero, List.getElem?_cons_succ, List.set_cons_zero, List.set_cons_succ, Option.bind_some, Option.map_some, Nat.reduceSub, Nat.reduceAdd, Int.toNat_natCast, Bool.not_false, Bool.not_true, okK_none]
  refine ⟨mulM hx.1 hy.1, mulM hx.den hy.den, ?_⟩
  refine s_fof n (Int.mul_ne_zero (den_neI x) (den_neI y)) (Nat.le_trans (mul_le2 hx.den hy.den) (pow_le2 h)) ?_
  rw [q_mul]
  simp only [e_var, v_v, v_o, e_non, e_bl, e_int, e_str, e_nil, e_dnil, e_cons, con_, e_tup, ls_, e_lst, e_bin, e_neg, int_, e_nt, e_and, e_or, e_ife, e_cmp, e_isc, e_call, e_pick, pick_, e_b1, e_b2, e_isin, e_ix, e_slc, e_rng1, e_rng2, e_enm, e_zp, zp_l, zp_t, e_comp, turn_, oc_s, oc_n, cmp_nil, cmp_cons, x_asg, x_par, x_sto, sto_, x_app, app_, x_ext, ext_, x_ex, x_pop, pop_, x_popj, x_ret, ret_v, ret_o, ret_k, x_ifs, x_brk, x_cnt, x_pas, sq_n, sq_b, sq_c, sq_r, x_seq, forB_, x_fr, whlC_, x_whl, okK_some, okK_ite, okK_map, okK_bind, trK_t, trK_f, trK_map, K2_some, K3_some, frz, bindT, wipe, R.d_v, R.d_o, R.d_k, R.st_v, R.st_o, R.st_k, binD, cmpD, truth, isinD, ix_d, ix_l, ix_t, get_d, e_get, e_rev, e_scons, x_par3, aI0, aI1, b1_len_d, b1_int, b1_intb, b1_sorted_d, partD, slcD, b1_len_l, b1_len_t, b1_len_s, b1_abs, b1_all, b1_any, b1_sum, b1_tup_l, b1_tup_t, b1_lst_l, b1_lst_t, b1_max, b1_min, b1_sorted, b2D, iscD, items, begin_, List.map_cons, List.map_nil, List.replicate_succ, List.replicate_zero, List.nil_append, List.cons_append, List.getElem?_cons_zero, List.getElem?_cons_succ, List.set_cons_zero, List.set_cons_succ, Option.bind_some, Option.map_some, Nat.reduceSub, Nat.reduceAdd, Int.toNat_natCast, Bool.not_false, Bool.not_true, okK_none]
  exact c
theorem s_lfrac (n : Nat) {p q : Int} {t : τ} {Q : R → τ → Prop} (hq : q ≠ 0) (hb : q.natAbs ≤ 2 ^ 8000) (hW : 2 ^ 8001 ≤ W) (c : Q (.v (Qd (Rat.divInt p q))) t) : K2 (run O W prog (n + 1) i__law_fraction [.int p, .int q] t) Q := by
  refine run_ (fn := f__law_fraction) rfl rfl ?_
  unfold f__law_fraction b__law_fraction
  simp only [e_var, v_v, v_o, e_non, e_bl, e_int, e_str, e_nil, e_dnil, e_cons, con_, e_tup, ls_, e_lst, e_bin, e_neg, int_, e_nt, e_and, e_or, e_ife, e_cmp, e_isc, e_call, e_pick, pick_, e_b1, e_b2, e_isin, e_ix, e_slc, e_rng1, e_rng2, e_enm, e_zp, zp_l, zp_t, e_comp, turn_, oc_s, oc_n, cmp_nil, cmp_cons, x_asg, x_par, x_sto, sto_, x_app, app_, x_ext, ext_, x_ex, x_pop, pop_, x_popj, x_ret, ret_v, ret_o, ret_k, x_ifs, x_brk, x_cnt, x_pas, sq_n, sq_b, sq_c, sq_r, x_seq, forB_, x_fr, whlC_, x_whl, okK_some, okK_ite, okK_map, okK_bind, trK_t, trK_f, trK_map, K2_some, K3_some, frz, bindT, wipe, R.d_v, R.d_o, R.d_k, R.st_v, R.st_o, R.st_k, binD, cmpD, truth, isinD, ix_d, ix_l, ix_t, get_d, e_get, e_rev, e_scons, x_par3, aI0, aI1, b1_len_d, b1_int, b1_intb, b1_sorted_d, partD, slcD, b1_len_l, b1_len_t, b1_len_s, b1_abs, b1_all, b1_any, b1_sum, b1_tup_l, b1_tup_t, b1_lst_l, b1_lst_t, b1_max, b1_min, b1_sorted, b2D, iscD, items, begin_, List.map_cons, List.map_nil, List.replicate_succ, List.replicate_zero, List.nil_append, List.cons_append, List.getElem?_cons_zero, List.getElem?_cons_succ, List.set_cons_zero, List.set_cons_succ, Option.bind_some, Option.map_some, Nat.reduceSub, Nat.reduceAdd, Int.toNat_natCast, Bool.not_false, Bool.not_true, okK_none]
  have ab : ∀ i : Int, (if i < 0 then -i else i) = ((i.natAbs : Nat) : Int) := fun i => by split <;> omega
  simp only [ab]
  have lt : q.natAbs < W := Nat.lt_of_lt_of_le (Nat.lt_of_le_of_lt hb (by rw [Nat.pow_succ]; have := Nat.pow_pos (n := 8000) (show 0 < 2 by omega); omega)) hW
  refine whl_inv (fun m ρ t' => t' = t ∧ ∃ a : Nat, Nat.gcd a m = Nat.gcd p.natAbs q.natAbs ∧ ρ = [some (.v (.int p)), some (.v (.int q)), some (.v (.int (a : Nat))), some (.v (.int (m : Nat)))]) W q.natAbs _ _ lt ⟨rfl, p.natAbs, rfl, rfl⟩ ?_
  rintro m ρ t' ⟨rfl, a, hg, rfl⟩
  simp only [e_var, v_v, v_o, e_non, e_bl, e_int, e_str, e_nil, e_dnil, e_cons, con_, e_tup, ls_, e_lst, e_bin, e_neg, int_, e_nt, e_and, e_or, e_ife, e_cmp, e_isc, e_call, e_pick, pick_, e_b1, e_b2, e_isin, e_ix, e_slc, e_rng1, e_rng2, e_enm, e_zp, zp_l, zp_t, e_comp, turn_, oc_s, oc_n, cmp_nil, cmp_cons, x_asg, x_par, x_sto, sto_, x_app, app_, x_ext, ext_, x_ex, x_pop, pop_, x_popj, x_ret, ret_v, ret_o, ret_k, x_ifs, x_brk, x_cnt, x_pas, sq_n, sq_b, sq_c, sq_r, x_seq, forB_, x_fr, whlC_, x_whl, okK_some, okK_ite, okK_map, okK_bind, trK_t, trK_f, trK_map, K2_some, K3_some, frz, bindT, wipe, R.d_v, R.d_o, R.d_k, R.st_v, R.st_o, R.st_k, binD, cmpD, truth, isinD, ix_d, ix_l, ix_t, get_d, e_get, e_rev, e_scons, x_par3, aI0, aI1, b1_len_d, b1_int, b1_intb, b1_sorted_d, partD, slcD, b1_len_l, b1_len_t, b1_len_s, b1_abs, b1_all, b1_any, b1_sum, b1_tup_l, b1_tup_t, b1_lst_l, b1_lst_t, b1_max, b1_min, b1_sorted, b2D, iscD, items, begin_, List.map_cons, List.map_nil, List.replicate_succ, List.replicate_zero, List.nil_append, List.cons_append, List.getElem?_cons_zero, List.getElem?_cons_succ, List.set_cons_zero, List.set_cons_succ, Option.bind_some, Option.map_some, Nat.reduceSub, Nat.reduceAdd, Int.toNat_natCast, Bool.not_false, Bool.not_true, okK_none]
  refine ⟨fun hm => ?_, fun hm => ?_⟩
  · have hm : 0 < m := by have := of_decide_eq_true hm; omega
    have e : ((a : Nat) : Int).fmod ((m : Nat) : Int) = ((a % m : Nat) : Int) := by
      rw [Int.fmod_eq_emod_of_nonneg _ (by omega)]; rfl
    rw [e]
    refine ⟨by omega, a % m, Nat.mod_lt _ hm, trivial, m, ?_, rfl⟩
    rw [← hg, Nat.gcd_comm m, ← Nat.gcd_rec, Nat.gcd_comm]
  · have hm : m = 0 := by have := of_decide_eq_false hm; omega
    subst hm
    rw [Nat.gcd_zero_right] at hg
    subst hg
    simp only [trK_b]
    have key : ∀ g : Int, (g = if 0 < q then ((Nat.gcd p.natAbs q.natAbs : Nat) : Int) else -((Nat.gcd p.natAbs q.natAbs : Nat) : Int)) → (g ≠ 0 ∧ g.natAbs.log2 < 9000) ∧ (g ≠ 0 ∧ g.natAbs.log2 < 9000) ∧ [D.int (p.fdiv g), D.int (q.fdiv g)].length ≤ sizeLine ∧ Q (.v (.tup [.int (p.fdiv g), .int (q.fdiv g)])) t' := fun g hg => by
      obtain ⟨h1, h2, h3, h4⟩ := frac_gen hq hg
      have h5 : g.natAbs.log2 < 9000 := by
        have := logM (Nat.le_trans h2 hb)
        omega
      refine ⟨⟨h1, h5⟩, ⟨h1, h5⟩, by rw [sizeLine_eq]; show 2 ≤ 16777216; decide, ?_⟩
      rw [h3, h4]
      exact c
    constructor
    · intro h
      exact key _ (by rw [if_pos (of_decide_eq_true h)])
    · intro h
      exact key _ (by rw [if_neg (of_decide_eq_false h), Int.zero_sub])
end PyI

set_option Elab.async false
set_option linter.all false
set_option maxRecDepth 100000
set_option maxHeartbeats 4000000
/-! drawn forms: plain -/
namespace Rw
abbrev Dn := List (Nat × List Int)
def cf (p : Dn) (e N : Nat) : Int := (p.map fun x => if x.1 = e then at_ x.2 0 N else 0).sum
theorem cf_nil (e N : Nat) : cf [] e N = 0 := rfl
theorem cf_cons (x : Nat × List Int) (p : Dn) (e N : Nat) : cf (x :: p) e N = (if x.1 = e then at_ x.2 0 N else 0) + cf p e N := by
  unfold cf; rw [List.map_cons, List.sum_cons]
theorem cf_app : ∀ (p q : Dn) (e N : Nat), cf (p ++ q) e N = cf p e N + cf q e N
  | [], q, e, N => by rw [List.nil_append, cf_nil]; omega
  | x :: p, q, e, N => by rw [List.cons_append, cf_cons, cf_cons, cf_app p q]; omega
theorem cf_none {p : Dn} {e : Nat} (h : ∀ x ∈ p, x.1 ≠ e) (N : Nat) : cf p e N = 0 := by
  induction p with
  | nil => rfl
  | cons x p ih => rw [cf_cons, if_neg (h x (List.mem_cons_self ..)), ih fun y hy => h y (List.mem_cons_of_mem _ hy)]; rfl
def keys (p : Dn) : List Nat := p.map (·.1)
theorem cf_mem {p : Dn} (hn : (keys p).Nodup) {x : Nat × List Int} (h : x ∈ p) (N : Nat) : cf p x.1 N = at_ x.2 0 N := by
  induction p with
  | nil => cases h
  | cons y p ih =>
    have hn' : y.1 ∉ keys p ∧ (keys p).Nodup := by simpa [keys] using hn
    rw [cf_cons]
    rcases List.mem_cons.mp h with rfl | h
    · rw [if_pos rfl, cf_none fun z hz q => hn'.1 (by rw [← q]; exact List.mem_map_of_mem hz)]
      omega
    · have : y.1 ≠ x.1 := fun q => hn'.1 (by rw [q]; exact List.mem_map_of_mem h)
      rw [if_neg this, ih hn'.2 h]
      omega
def kget : Dn → Nat → Option (List Int)
  | [], _ => none
  | x :: kv, e => if x.1 = e then some x.2 else kget kv e
def krep : Dn → Nat → List Int → Dn
  | [], _, _ => []
  | x :: kv, e, s => (x.1, if x.1 = e then s else x.2) :: krep kv e s
def kput (kv : Dn) (e : Nat) (s : List Int) : Dn := if (keys kv).contains e then krep kv e s else kv ++ [(e, s)]
theorem krep_keys : ∀ (kv : Dn) (e : Nat) (s : List Int), keys (krep kv e s) = keys kv
  | [], _, _ => rfl
  | x :: kv, e, s => by
    have := krep_keys kv e s
    unfold keys at this ⊢
    simp only [krep, List.map_cons, this]
theorem kget_cf : ∀ {kv : Dn}, (keys kv).Nodup → ∀ (e N : Nat), at_ ((kget kv e).getD []) 0 N = cf kv e N
  | [], _, _, _ => rfl
  | x :: kv, hn, e, N => by
    have hn' : x.1 ∉ keys kv ∧ (keys kv).Nodup := by simpa [keys] using hn
    rw [kget, cf_cons]
    by_cases h : x.1 = e
    · rw [if_pos h, if_pos h, cf_none fun z hz q => hn'.1 (by rw [h, ← q]; exact List.mem_map_of_mem hz)]
      simp
    · rw [if_neg h, if_neg h, kget_cf hn'.2]; omega
theorem kget_mem : ∀ {kv : Dn} {e : Nat} {s : List Int}, kget kv e = some s → (e, s) ∈ kv
  | x :: kv, e, s, h => by
    rw [kget] at h
    by_cases z : x.1 = e
    · rw [if_pos z] at h
      cases h
      rw [← z]
      exact List.mem_cons_self ..
    · rw [if_neg z] at h
      exact List.mem_cons_of_mem _ (kget_mem h)
theorem kget_of : ∀ {kv : Dn}, (keys kv).Nodup → ∀ {x : Nat × List Int}, x ∈ kv → kget kv x.1 = some x.2
  | y :: kv, hn, x, h => by
    have hn' : y.1 ∉ keys kv ∧ (keys kv).Nodup := by simpa [keys] using hn
    rw [kget]
    rcases List.mem_cons.mp h with rfl | h
    · rw [if_pos rfl]
    · rw [if_neg (fun q => hn'.1 (by rw [q]; exact List.mem_map_of_mem h)), kget_of hn'.2 h]
theorem kput_nodup {kv : Dn} {e : Nat} {s : List Int} (hn : (keys kv).Nodup) : (keys (kput kv e s)).Nodup := by
  unfold kput
  split
  · rw [krep_keys]; exact hn
  · rename_i h
    have h' : e ∉ keys kv := by simpa using h
    have : keys (kv ++ [(e, s)]) = keys kv ++ [e] := by simp [keys]
    rw [this]
    rw [List.nodup_append]
    refine ⟨hn, by simp, fun a ha b hb => ?_⟩
    rw [List.mem_singleton] at hb
    subst hb
    exact fun z => h' (z ▸ ha)
theorem krep_mem : ∀ {kv : Dn} {e : Nat} {s : List Int}, ∀ x ∈ krep kv e s, (x.2 = s ∧ x.1 = e) ∨ x ∈ kv
  | y :: kv, e, s, x, h => by
    rw [krep] at h
    rcases List.mem_cons.mp h with rfl | h
    · by_cases z : y.1 = e
      · simp [z]
      · simp [z]
    · rcases krep_mem x h with q | q
      · exact .inl q
      · exact .inr (List.mem_cons_of_mem _ q)
theorem kput_mem {kv : Dn} {e : Nat} {s : List Int} : ∀ x ∈ kput kv e s, (x.2 = s ∧ x.1 = e) ∨ x ∈ kv := fun x h => by
  unfold kput at h
  split at h
  · exact krep_mem x h
  · rcases List.mem_append.mp h with h | h
    · exact .inr h
    · rw [List.mem_singleton] at h
      rw [h]
      exact .inl ⟨rfl, rfl⟩
theorem kput_len {kv : Dn} {e : Nat} {s : List Int} : (kput kv e s).length ≤ kv.length + 1 := by
  unfold kput
  split
  · have : (krep kv e s).length = kv.length := by
      have := congrArg List.length (krep_keys kv e s)
      simpa [keys] using this
    omega
  · simp
theorem krep_cf : ∀ {kv : Dn}, (keys kv).Nodup → ∀ {e : Nat} {s : List Int}, e ∈ keys kv → ∀ e' N, cf (krep kv e s) e' N = if e' = e then at_ s 0 N else cf kv e' N
  | [], _, e, s, h, _, _ => by simp [keys] at h
  | x :: kv, hn, e, s, h, e', N => by
    have hn' : x.1 ∉ keys kv ∧ (keys kv).Nodup := by simpa [keys] using hn
    rw [krep, cf_cons, cf_cons]
    by_cases z : x.1 = e
    · have hz : ∀ e', e' = e → cf kv e' N = 0 := fun e' q => cf_none (fun y hy r => hn'.1 (by rw [z, ← q, ← r]; exact List.mem_map_of_mem hy)) N
      have same : krep kv e s = kv := by
        have hh : ∀ (l : Dn), (∀ y ∈ l, y.1 ≠ e) → krep l e s = l := by
          intro l
          induction l with
          | nil => intro _; rfl
          | cons y l ih => intro q; rw [krep, ih fun w hw => q w (List.mem_cons_of_mem _ hw), if_neg (q y (List.mem_cons_self ..))]
        exact hh kv fun y hy q => hn'.1 (by rw [z, ← q]; exact List.mem_map_of_mem hy)
      rw [same]
      simp only [if_pos z]
      by_cases w : e' = e
      · rw [if_pos (by rw [z, w]), if_pos w, hz e' w]; omega
      · rw [if_neg (fun q => w (by rw [← q, z])), if_neg w, if_neg (fun q => w (by rw [← q, z]))]
    · have h' : e ∈ keys kv := by
        rcases List.mem_map.mp h with ⟨y, hy, hy2⟩
        rcases List.mem_cons.mp hy with rfl | hy
        · exact absurd hy2 z
        · exact List.mem_map.mpr ⟨y, hy, hy2⟩
      simp only [if_neg z]
      rw [krep_cf hn'.2 h']
      by_cases w : e' = e
      · rw [if_pos w, if_pos w, if_neg (fun q => z (by rw [q, w]))]; omega
      · rw [if_neg w, if_neg w]
theorem kput_cf {kv : Dn} (hn : (keys kv).Nodup) {e : Nat} {s : List Int} (e' N : Nat) : cf (kput kv e s) e' N = if e' = e then at_ s 0 N else cf kv e' N := by
  unfold kput
  split
  · rename_i h
    exact krep_cf hn (by simpa using h) e' N
  · rename_i h
    have h' : e ∉ keys kv := by simpa using h
    rw [cf_app, cf_cons, cf_nil]
    by_cases z : e' = e
    · rw [if_pos z, if_pos z.symm, cf_none fun y hy q => h' (by rw [← z, ← q]; exact List.mem_map_of_mem hy)]; show 0 + (at_ s 0 N + 0) = _; omega
    · rw [if_neg z, if_neg (fun q => z q.symm)]; omega
/-- what is written: ascending, rows that are rows -/
def Can (a : Dn) : Prop := a.Pairwise (fun x y => x.1 < y.1) ∧ ∀ x ∈ a, x.2 ≠ [] ∧ strip x.2 = x.2
theorem Can.nodup {a : Dn} (h : Can a) : (keys a).Nodup := by
  unfold keys
  rw [List.nodup_iff_pairwise_ne, List.pairwise_map]
  exact h.1.imp fun q => by omega
theorem nz_of {r : List Int} (h1 : r ≠ []) (h2 : strip r = r) : ∃ N, at_ r 0 N ≠ 0 := by
  refine Classical.byContradiction fun q => h1 ?_
  have q : ∀ N, at_ r 0 N = 0 := fun N => Classical.byContradiction fun z => q ⟨N, z⟩
  have := (same_iff (n := r.length) (x := r) (y := []) (Nat.le_refl _) (by simp)).mp (tab_congr (fun i => by rw [q]; rfl) _ _)
  rw [h2] at this
  exact this
theorem row_uniq {r s : List Int} (h1 : strip r = r) (h2 : strip s = s) (n : Nat) (hr : r.length ≤ n) (hs : s.length ≤ n) (h : ∀ N, N < n → at_ r 0 N = at_ s 0 N) : r = s := by
  have := (same_iff hr hs).mp (by rw [tab_map, tab_map]; exact List.map_congr_left fun i hi => h _ (by rw [List.mem_range] at hi; omega))
  rwa [h1, h2] at this
theorem can_sub {a b : Dn} (ha : Can a) (hb : Can b) (h : ∀ e N, cf a e N = cf b e N) : ∀ x ∈ a, x ∈ b := fun x hx => by
  obtain ⟨h1, h2⟩ := ha.2 x hx
  obtain ⟨N, hN⟩ := nz_of h1 h2
  have e1 := fun N => cf_mem ha.nodup hx N
  have : ∃ y ∈ b, y.1 = x.1 := Classical.byContradiction fun q => hN (by
    rw [← e1, h, cf_none fun y hy z => q ⟨y, hy, z⟩])
  obtain ⟨y, hy, hyx⟩ := this
  have e2 := fun N => cf_mem hb.nodup hy N
  have : x.2 = y.2 := row_uniq h2 (hb.2 y hy).2 (max x.2.length y.2.length) (by omega) (by omega) fun N _ => by rw [← e1, ← e2, h, hyx]
  have : x = y := Prod.ext hyx.symm this
  rw [this]; exact hy
theorem can_uniq {a b : Dn} (ha : Can a) (hb : Can b) (h : ∀ e N, cf a e N = cf b e N) : a = b := by
  have na : a.Nodup := by
    rw [List.nodup_iff_pairwise_ne]
    exact ha.1.imp fun q z => by rw [z] at q; omega
  have nb : b.Nodup := by
    rw [List.nodup_iff_pairwise_ne]
    exact hb.1.imp fun q z => by rw [z] at q; omega
  refine List.Perm.eq_of_pairwise (le := fun x y => x.1 < y.1) (fun x y _ _ q r => by omega) ha.1 hb.1 ((List.perm_ext_iff_of_nodup na nb).mpr fun x => ⟨can_sub ha hb h x, can_sub hb ha (fun e N => (h e N).symm) x⟩)
/-- a dict, read ascending, without rows that are none -/
def srt (kv : Dn) : Dn := ((keys kv).mergeSort fun a b => decide (a ≤ b)).filterMap fun e => (kget kv e).bind fun r => if r = [] then none else some (e, r)
theorem srt_mem {kv : Dn} (hn : (keys kv).Nodup) {x : Nat × List Int} : x ∈ srt kv ↔ x ∈ kv ∧ x.2 ≠ [] := by
  unfold srt
  rw [List.mem_filterMap]
  constructor
  · rintro ⟨e, _, h⟩
    cases hk : kget kv e with
    | none => rw [hk] at h; cases h
    | some r =>
      rw [hk] at h
      simp only [Option.bind_some] at h
      split at h
      · cases h
      · rename_i hr
        cases h
        exact ⟨kget_mem hk, hr⟩
  · rintro ⟨h1, h2⟩
    refine ⟨x.1, ?_, ?_⟩
    · rw [List.mem_mergeSort]
      exact List.mem_map_of_mem h1
    · rw [kget_of hn h1]
      simp [h2]
theorem srt_can {kv : Dn} (hn : (keys kv).Nodup) (hs : ∀ x ∈ kv, strip x.2 = x.2) : Can (srt kv) := by
  refine ⟨?_, fun x hx => ?_⟩
  · unfold srt
    rw [List.pairwise_filterMap]
    have p := List.pairwise_mergeSort (le := fun a b : Nat => decide (a ≤ b)) (by simp; omega) (by simp; omega) (keys kv)
    have nd : ((keys kv).mergeSort fun a b => decide (a ≤ b)).Nodup := (List.mergeSort_perm _ _).nodup_iff.mpr hn
    have p2 := p.and (List.nodup_iff_pairwise_ne.mp nd)
    refine p2.imp fun {x y} q u hu v hv => ?_
    have f : ∀ {e : Nat} {u : Nat × List Int}, ((kget kv e).bind fun r => if r = [] then none else some (e, r)) = some u → u.1 = e := fun {e u} h => by
      cases hk : kget kv e with
      | none => rw [hk] at h; cases h
      | some r =>
        rw [hk] at h
        simp only [Option.bind_some] at h
        split at h
        · cases h
        · cases h; rfl
    rw [f hu, f hv]
    have := of_decide_eq_true q.1
    omega
  · obtain ⟨h1, h2⟩ := (srt_mem hn).mp hx
    exact ⟨h2, hs x h1⟩
theorem srt_cf {kv : Dn} (hn : (keys kv).Nodup) (hs : ∀ x ∈ kv, strip x.2 = x.2) (e N : Nat) : cf (srt kv) e N = cf kv e N := by
  by_cases h : ∃ x ∈ srt kv, x.1 = e
  · obtain ⟨x, hx, rfl⟩ := h
    rw [cf_mem (srt_can hn hs).nodup hx, cf_mem hn ((srt_mem hn).mp hx).1]
  · rw [cf_none fun x hx q => h ⟨x, hx, q⟩]
    by_cases h2 : ∃ x ∈ kv, x.1 = e
    · obtain ⟨x, hx, rfl⟩ := h2
      have : x.2 = [] := Classical.byContradiction fun q => h ⟨x, (srt_mem hn).mpr ⟨hx, q⟩, rfl⟩
      rw [cf_mem hn hx, this]
      rfl
    · rw [cf_none fun x hx q => h2 ⟨x, hx, q⟩]
theorem srt_len (kv : Dn) : (srt kv).length ≤ kv.length := by
  unfold srt
  refine Nat.le_trans (List.length_filterMap_le _ _) ?_
  rw [List.length_mergeSort]
  simp [keys]
/-! worths at n and t -/
def val (a : Dn) (N : Nat) (t : Rat) : Rat := (a.map fun x => t ^ x.1 * (at_ x.2 0 N : Rat)).sum
theorem val_nil (N : Nat) (t : Rat) : val [] N t = 0 := rfl
theorem val_cons (x : Nat × List Int) (a : Dn) (N : Nat) (t : Rat) : val (x :: a) N t = t ^ x.1 * (at_ x.2 0 N : Rat) + val a N t := by
  unfold val; rw [List.map_cons, List.sum_cons]
theorem val_app : ∀ (p q : Dn) (N : Nat) (t : Rat), val (p ++ q) N t = val p N t + val q N t
  | [], q, N, t => by rw [List.nil_append, val_nil]; grind
  | x :: p, q, N, t => by rw [List.cons_append, val_cons, val_cons, val_app p q]; grind
/-- by powers -/
def vs (t : Rat) (f : Nat → Int) : Nat → Rat
  | 0 => 0
  | w + 1 => vs t f w + t ^ w * (f w : Rat)
theorem vs_add (t : Rat) (f g : Nat → Int) : ∀ w, vs t (fun e => f e + g e) w = vs t f w + vs t g w
  | 0 => by simp only [vs]; grind
  | w + 1 => by rw [vs, vs, vs, vs_add t f g w]; simp only [Rat.intCast_add]; grind
theorem vs_one (t : Rat) (e : Nat) (z : Int) : ∀ w, vs t (fun e' => if e = e' then z else 0) w = if e < w then t ^ e * (z : Rat) else 0
  | 0 => by simp only [vs, Nat.not_lt_zero, if_false]
  | w + 1 => by
    have ih := vs_one t e z w
    have e1 : vs t (fun e' => if e = e' then z else 0) (w + 1) = vs t (fun e' => if e = e' then z else 0) w + t ^ w * ((if e = w then z else 0 : Int) : Rat) := rfl
    rw [e1, ih]
    by_cases h : e < w
    · rw [if_pos h, if_pos (show e < w + 1 by omega), if_neg (show ¬ e = w by omega)]
      have : ((0 : Int) : Rat) = 0 := rfl
      rw [this]; grind
    · rw [if_neg h]
      by_cases h2 : e = w
      · subst h2
        rw [if_pos (show e < e + 1 by omega), if_pos (show e = e from rfl)]; grind
      · rw [if_neg (show ¬ e < w + 1 by omega), if_neg h2]
        have : ((0 : Int) : Rat) = 0 := rfl
        rw [this]; grind
theorem vs_congr {t : Rat} {f g : Nat → Int} : ∀ {w : Nat}, (∀ e, e < w → f e = g e) → vs t f w = vs t g w
  | 0, _ => rfl
  | w + 1, h => by rw [vs, vs, vs_congr fun e he => h e (by omega), h w (by omega)]
theorem val_vs {N : Nat} {t : Rat} {w : Nat} : ∀ {a : Dn}, (∀ x ∈ a, x.1 < w) → val a N t = vs t (fun e => cf a e N) w
  | [], _ => by
    have : ∀ w, vs t (fun e => cf [] e N) w = 0 := by
      intro w
      induction w with
      | zero => rfl
      | succ w ih =>
        rw [vs, ih, cf_nil]
        have : ((0 : Int) : Rat) = 0 := rfl
        rw [this]; grind
    rw [this]; rfl
  | x :: a, h => by
    rw [val_cons, val_vs fun y hy => h y (List.mem_cons_of_mem _ hy)]
    have e : (fun e => cf (x :: a) e N) = fun e => (if x.1 = e then at_ x.2 0 N else 0) + cf a e N := by funext e; rw [cf_cons]
    rw [e, vs_add, vs_one, if_pos (h x (List.mem_cons_self ..))]
theorem val_ext {a b : Dn} (h : ∀ e N, cf a e N = cf b e N) (N : Nat) (t : Rat) : val a N t = val b N t := by
  have up : ∀ l : Dn, ∃ w, ∀ x ∈ l, x.1 < w := by
    intro l
    induction l with
    | nil => exact ⟨0, fun _ h => nomatch h⟩
    | cons x l ih =>
      obtain ⟨w, hw⟩ := ih
      refine ⟨max w (x.1 + 1), fun y hy => ?_⟩
      rcases List.mem_cons.mp hy with rfl | hy
      · omega
      · have := hw y hy
        omega
  obtain ⟨w, hw⟩ := up (a ++ b)
  rw [val_vs (w := w) fun x hx => hw x (List.mem_append_left _ hx), val_vs (w := w) fun x hx => hw x (List.mem_append_right _ hx)]
  exact vs_congr fun e _ => h e N
end Rw

set_option Elab.async false
set_option linter.all false
set_option maxRecDepth 100000
set_option maxHeartbeats 4000000
/-! drawn forms: the dict, what is made of pairs -/
namespace PyI
open PySem PySem.Spec PyProof.Rows Rw
variable {τ : Type} {O : Pk τ} {W : Nat}
theorem cmp_fm {f : D → τ → Option (Option D × τ)} (g : D → Option D) {k : List D → τ → Prop} : ∀ (xs : List D) (t : τ), (∀ x ∈ xs, K2 (f x t) fun y t' => y = g x ∧ t' = t) → k (xs.filterMap g) t → K2 (compL f xs t) k
  | [], t, _, h => K2_some.mpr h
  | x :: xs, t, hf, h => by
    obtain ⟨y, t', e, hy, rfl⟩ := hf x (List.mem_cons_self ..)
    obtain ⟨ys, t2, e2, rfl, rfl⟩ := cmp_fm (k := fun ys t2 => ys = xs.filterMap g ∧ t2 = t') g xs t' (fun x hx => hf x (List.mem_cons_of_mem _ hx)) ⟨rfl, rfl⟩
    unfold compL
    rw [e, hy]
    cases q : g x with
    | some z =>
      simp only [e2]
      rw [List.filterMap_cons_some q] at h
      exact K2_some.mpr h
    | none =>
      simp only [e2]
      rw [List.filterMap_cons_none q] at h
      exact K2_some.mpr h
abbrev nD (e : Nat) : D := .int ((e : Nat) : Int)
abbrev rD (r : List Int) : D := .tup (I r)
def pr (x : Nat × List Int) : D := .tup [nD x.1, rD x.2]
abbrev dD (a : Dn) : D := .tup (a.map pr)
abbrev ksD (kv : Dn) : List D := kv.map fun x => nD x.1
abbrev vsD (kv : Dn) : List D := kv.map fun x => rD x.2
abbrev kvD (kv : Dn) : D := .dct (ksD kv) (vsD kv)
theorem keyEq_n (a e : Nat) : keyEq (nD a) (nD e) = decide (a = e) := by
  show (((a : Nat) : Int) == ((e : Nat) : Int)) = _
  by_cases h : a = e
  · simp [h]
  · rw [decide_eq_false h]
    simpa using fun z => h (by omega)
theorem valD_kv : ∀ (kv : Dn) (e : Nat), valD (ksD kv) (vsD kv) (nD e) = (kget kv e).map rD
  | [], _ => rfl
  | x :: kv, e => by
    show (if keyEq (nD x.1) (nD e) = true then some (rD x.2) else valD (ksD kv) (vsD kv) (nD e)) = _
    rw [keyEq_n, valD_kv kv e, kget]
    by_cases h : x.1 = e
    · rw [if_pos (by simpa using h), if_pos h]; rfl
    · rw [if_neg (by simpa using h), if_neg h]
theorem repD_kv : ∀ (kv : Dn) (e : Nat) (s : List Int), repD (ksD kv) (vsD kv) (nD e) (rD s) = vsD (krep kv e s)
  | [], _, _ => rfl
  | x :: kv, e, s => by
    show (if keyEq (nD x.1) (nD e) = true then rD s else rD x.2) :: repD (ksD kv) (vsD kv) (nD e) (rD s) = rD (if x.1 = e then s else x.2) :: vsD (krep kv e s)
    rw [repD_kv kv e s, keyEq_n]
    by_cases h : x.1 = e
    · rw [if_pos (by simpa using h), if_pos h]
    · rw [if_neg (by simpa using h), if_neg h]
theorem krep_ks : ∀ (kv : Dn) (e : Nat) (s : List Int), ksD (krep kv e s) = ksD kv
  | [], _, _ => rfl
  | x :: kv, e, s => congrArg (nD x.1 :: ·) (krep_ks kv e s)
theorem putD_kv (kv : Dn) (e : Nat) (s : List Int) : putD (ksD kv) (vsD kv) (nD e) (rD s) = (ksD (kput kv e s), vsD (kput kv e s)) := by
  have h : ((ksD kv).any fun x => keyEq x (nD e)) = (keys kv).contains e := by
    induction kv with
    | nil => rfl
    | cons x kv ih =>
      show (keyEq (nD x.1) (nD e) || (ksD kv).any fun x => keyEq x (nD e)) = (x.1 :: keys kv).contains e
      rw [ih, keyEq_n, List.contains_cons]
      congr 1
      by_cases z : x.1 = e
      · subst z; simp
      · have z2 : ¬ e = x.1 := fun h => z h.symm
        simp [z, z2]
  unfold putD kput
  rw [h]
  split
  · rw [krep_ks, repD_kv]
  · simp [ksD, vsD]
theorem set_kv {kv : Dn} {e : Nat} {s : List Int} (h : kv.length < sizeLine) : setAt (kvD kv) (nD e) (rD s) = some (kvD (kput kv e s)) := by
  show (if (isKey (nD e) && decide ((ksD kv).length < sizeLine)) = true then some (D.dct (putD (ksD kv) (vsD kv) (nD e) (rD s)).1 (putD (ksD kv) (vsD kv) (nD e) (rD s)).2) else none) = _
  rw [if_pos (by rw [List.length_map, decide_eq_true h]; rfl), putD_kv]
theorem ints_ks (kv : Dn) : intsD (ksD kv) = some ((keys kv).map fun e => ((e : Nat) : Int)) := by
  have : ksD kv = I ((keys kv).map fun e => ((e : Nat) : Int)) := by simp [ksD, keys, I, Function.comp]
  rw [this, intsD_I]
theorem isort_keys (l : List Nat) : isort (l.map fun e => ((e : Nat) : Int)) = (l.mergeSort fun a b => decide (a ≤ b)).map fun e => ((e : Nat) : Int) := by
  have p1 : (isort (l.map fun e => ((e : Nat) : Int))).Perm (l.map fun e => ((e : Nat) : Int)) := List.mergeSort_perm _ _
  have p2 : ((l.mergeSort fun a b => decide (a ≤ b)).map fun e => ((e : Nat) : Int)).Perm (l.map fun e => ((e : Nat) : Int)) := (List.mergeSort_perm _ _).map _
  refine List.Perm.eq_of_pairwise (le := fun a b : Int => a ≤ b) (fun a b _ _ h1 h2 => by omega) ?_ ?_ (p1.trans p2.symm)
  · have := List.pairwise_mergeSort (le := fun a b : Int => decide (a ≤ b)) (by simp; omega) (by simp; omega) (l.map fun e => ((e : Nat) : Int))
    exact this.imp fun q => of_decide_eq_true q
  · rw [List.pairwise_map]
    have := List.pairwise_mergeSort (le := fun a b : Nat => decide (a ≤ b)) (by simp; omega) (by simp; omega) l
    exact this.imp fun q => by have := of_decide_eq_true q; omega
theorem items_pr {x : D} {p : Dn} (h : x = .lst (p.map pr) ∨ x = dD p) : items x = some (p.map pr) := by
  rcases h with rfl | rfl <;> rfl
/-- rows and powers are not too great -/
def bnd (c l w : Nat) (a : Dn) : Prop := ∀ x ∈ a, x.2.length ≤ l ∧ (∀ y ∈ x.2, y.natAbs ≤ 2 ^ c) ∧ x.1 < w
theorem bnd.mono {c l w c' l' w' : Nat} {a : Dn} (h : bnd c l w a) (h1 : c ≤ c') (h2 : l ≤ l') (h3 : w ≤ w') : bnd c' l' w' a := fun x hx => by
  obtain ⟨a1, a2, a3⟩ := h x hx
  exact ⟨by omega, fun y hy => Nat.le_trans (a2 y hy) (pow_le2 h1), by omega⟩
theorem bnd.app {c l w : Nat} {a b : Dn} (h : bnd c l w a) (h' : bnd c l w b) : bnd c l w (a ++ b) := fun x hx => (List.mem_append.mp hx).elim (h x) (h' x)
theorem padd_mem {xs ys : List Int} {f : Int → Int → Int} (z : Int) (h : z ∈ padd xs ys f) : ∃ j, z = f (xs.getD j 0) (ys.getD j 0) := by
  unfold padd at h
  obtain ⟨j, _, rfl⟩ := List.mem_map.mp h
  exact ⟨j, rfl⟩
theorem getD_le {xs : List Int} {B : Nat} (h : ∀ x ∈ xs, x.natAbs ≤ B) (j : Nat) : (xs.getD j 0).natAbs ≤ B := by
  rw [List.getD_eq_getElem?_getD]
  cases q : xs[j]? with
  | none => simp
  | some x => exact h x (List.mem_of_getElem? q)
theorem at_padd (xs ys : List Int) (k N : Nat) : at_ (padd xs ys (· + ·)) k N = at_ xs k N + at_ ys k N := by
  have h1 := at_sm (max xs.length ys.length) (padd xs ys (· + ·)) k N (by rw [padd_len]; omega)
  rw [h1, at_sm (max xs.length ys.length) xs k N (by omega), at_sm (max xs.length ys.length) ys k N (by omega), ← sm_add]
  refine sm_congr fun j _ => ?_
  rw [padd_getD (by rfl)]
  grind
theorem strip_bd {xs : List Int} {B : Nat} (h : ∀ x ∈ xs, x.natAbs ≤ B) : ∀ x ∈ strip xs, x.natAbs ≤ B := fun x hx => h x (strip_mem xs x hx)
/-- the reading of a dict, ascending -/
theorem srt_read {own : List Nat} {elt tg test : C} {F : Fs τ} {ρ : Rho} {kv : Dn} (hn : (keys kv).Nodup) {t : τ} {k : List D → τ → Prop} (g : D → Option D)
    (hg : ∀ e r, kget kv e = some r → g (nD e) = if r = [] then none else some (pr (e, r)))
    (hf : ∀ e r, kget kv e = some r → K2 (turnD O F own elt tg test ρ (nD e) t) fun y t' => y = g (nD e) ∧ t' = t) (q : k ((srt kv).map pr) t) :
    K2 (compL (turnD O F own elt tg test ρ) ((isort ((keys kv).map fun e => ((e : Nat) : Int))).map .int) t) k := by
  rw [isort_keys, List.map_map]
  have mem : ∀ e ∈ (keys kv).mergeSort fun a b => decide (a ≤ b), ∃ r, kget kv e = some r := fun e he => by
    rw [List.mem_mergeSort] at he
    obtain ⟨x, hx, rfl⟩ := List.mem_map.mp he
    exact ⟨_, kget_of hn hx⟩
  refine cmp_fm g _ _ (fun x hx => ?_) ?_
  · obtain ⟨e, he, rfl⟩ := List.mem_map.mp hx
    obtain ⟨r, hr⟩ := mem e he
    exact hf e r hr
  · have key : ∀ l : List Nat, (∀ e ∈ l, ∃ r, kget kv e = some r) → (l.map (D.int ∘ fun e => ((e : Nat) : Int))).filterMap g = (l.filterMap fun e => (kget kv e).bind fun r => if r = [] then none else some (e, r)).map pr := by
      intro l
      induction l with
      | nil => intro _; rfl
      | cons e l ih =>
        intro h
        obtain ⟨r, hr⟩ := h e (List.mem_cons_self ..)
        have ih := ih fun e he => h e (List.mem_cons_of_mem _ he)
        have h1 : g ((D.int ∘ fun e : Nat => ((e : Nat) : Int)) e) = if r = [] then none else some (pr (e, r)) := hg e r hr
        rw [List.map_cons, List.filterMap_cons, List.filterMap_cons, hr, ih, h1]
        by_cases z : r = []
        · simp [z]
        · simp [z]
    rw [key _ mem]
    exact q
theorem s_dof (n : Nat) {x : D} {p : Dn} {c l w : Nat} {t : τ} (hx : x = .lst (p.map pr) ∨ x = dD p) (hb : bnd c l w p) (hl : l ≤ 1000) (hp : p.length ≤ 60) (hW : 1000 < W) {Q : R → τ → Prop}
    (q : ∀ a : Dn, Can a → (∀ e N, cf a e N = cf p e N) → a.length ≤ p.length → bnd (c + 6) l w a → Q (.v (dD a)) t) : K2 (run O W prog (n + 3) i_drawn_of [x] t) Q := by
  refine run_ (fn := f_drawn_of) rfl rfl ?_
  unfold f_drawn_of b_drawn_of
  rw [x_seq]
  simp only [e_var, v_v, v_o, e_non, e_bl, e_int, e_str, e_nil, e_dnil, e_cons, con_, e_tup, ls_, e_lst, e_bin, e_neg, int_, e_nt, e_and, e_or, e_ife, e_cmp, e_isc, e_call, e_pick, pick_, e_b1, e_b2, e_isin, e_ix, e_slc, e_rng1, e_rng2, e_enm, e_zp, zp_l, zp_t, e_comp, turn_, oc_s, oc_n, cmp_nil, cmp_cons, x_asg, x_par, x_sto, sto_, x_app, app_, x_ext, ext_, x_ex, x_pop, pop_, x_popj, x_ret, ret_v, ret_o, ret_k, x_ifs, x_brk, x_cnt, x_pas, sq_b, sq_c, sq_r, x_seq, forB_, x_fr, whlC_, x_whl, okK_some, okK_ite, okK_map, okK_bind, trK_t, trK_f, trK_map, K2_some, K3_some, frz, bindT, wipe, R.d_v, R.d_o, R.d_k, R.st_v, R.st_o, R.st_k, binD, cmpD, truth, isinD, ix_d, ix_l, ix_t, get_d, e_get, e_rev, e_scons, x_par3, aI0, aI1, b1_len_d, b1_int, b1_intb, b1_sorted_d, partD, slcD, b1_len_l, b1_len_t, b1_len_s, b1_abs, b1_all, b1_any, b1_sum, b1_tup_l, b1_tup_t, b1_lst_l, b1_lst_t, b1_max, b1_min, b1_sorted, b2D, iscD, items, begin_, List.map_cons, List.map_nil, List.replicate_succ, List.replicate_zero, List.nil_append, List.cons_append, List.getElem?_cons_zero, List.getElem?_cons_succ, List.set_cons_zero, List.set_cons_succ, Option.bind_some, Option.map_some, Nat.reduceSub, Nat.reduceAdd, Int.toNat_natCast, Bool.not_false, Bool.not_true, okK_none]
  rw [sq_n, x_seq]
  have hit := items_pr hx
  have hst : ∀ {k : List D → Prop}, okK ((R.v x).st.bind items) k ↔ k (p.map pr) := fun {k} => by
    show okK ((some x).bind items) k ↔ _
    rw [Option.bind_some, hit, okK_some]
  simp only [x_fr, e_var, frz, v_v, List.getElem?_cons_zero, hst]
  have inv : ∃ I0 : Nat → Rho → τ → Prop, I0 = fun i ρ t' => t' = t ∧ ∃ (kv : Dn) (y2 y3 : Option R), (keys kv).Nodup ∧ (∀ z ∈ kv, strip z.2 = z.2) ∧ kv.length ≤ i ∧ (∀ z ∈ kv, z.2.length ≤ l ∧ (∀ y ∈ z.2, y.natAbs ≤ i * 2 ^ c) ∧ z.1 < w) ∧ (∀ e N, cf kv e N = cf (p.take i) e N) ∧
      ρ = [some (.v x), some (.o (kvD kv)), y2, y3] := ⟨_, rfl⟩
  obtain ⟨I0, hI⟩ := inv
  refine for_lst I0 (by rw [hI]; exact ⟨rfl, [], none, none, by simp [keys], by simp, by simp, by simp, fun e N => by simp, rfl⟩) ?_ ?_
  · rintro i d ρ t' hd hi
    rw [hI] at hi
    obtain ⟨rfl, kv, y2, y3, h1, h2, h3, h4, h5, rfl⟩ := hi
    rw [List.getElem?_map] at hd
    cases hpi : p[i]? with
    | none => rw [hpi] at hd; cases hd
    | some z =>
      rw [hpi] at hd
      have hd : pr z = d := by simpa using hd
      subst hd
      have hip : i < p.length := (List.getElem?_eq_some_iff.mp hpi).1
      obtain ⟨b1, b2, b3⟩ := hb z (List.mem_of_getElem? hpi)
      have hv := valD_kv kv z.1
      simp only [pr, e_var, v_v, v_o, e_non, e_bl, e_int, e_str, e_nil, e_dnil, e_cons, con_, e_tup, ls_, e_lst, e_bin, e_neg, int_, e_nt, e_and, e_or, e_ife, e_cmp, e_isc, e_call, e_pick, pick_, e_b1, e_b2, e_isin, e_ix, e_slc, e_rng1, e_rng2, e_enm, e_zp, zp_l, zp_t, e_comp, turn_, oc_s, oc_n, cmp_nil, cmp_cons, x_asg, x_par, x_sto, sto_, x_app, app_, x_ext, ext_, x_ex, x_pop, pop_, x_popj, x_ret, ret_v, ret_o, ret_k, x_ifs, x_brk, x_cnt, x_pas, sq_n, sq_b, sq_c, sq_r, x_seq, forB_, x_fr, whlC_, x_whl, okK_some, okK_ite, okK_map, okK_bind, trK_t, trK_f, trK_map, K2_some, K3_some, frz, bindT, wipe, R.d_v, R.d_o, R.d_k, R.st_v, R.st_o, R.st_k, binD, cmpD, truth, isinD, ix_d, ix_l, ix_t, get_d, e_get, e_rev, e_scons, x_par3, aI0, aI1, b1_len_d, b1_int, b1_intb, b1_sorted_d, partD, slcD, b1_len_l, b1_len_t, b1_len_s, b1_abs, b1_all, b1_any, b1_sum, b1_tup_l, b1_tup_t, b1_lst_l, b1_lst_t, b1_max, b1_min, b1_sorted, b2D, iscD, items, begin_, List.map_cons, List.map_nil, List.replicate_succ, List.replicate_zero, List.nil_append, List.cons_append, List.getElem?_cons_zero, List.getElem?_cons_succ, List.set_cons_zero, List.set_cons_succ, Option.bind_some, Option.map_some, Nat.reduceSub, Nat.reduceAdd, Int.toNat_natCast, Bool.not_false, Bool.not_true, okK_none, hv, List.length_nil]
      refine ⟨Nat.zero_le _, ?_⟩
      have eg : ((kget kv z.1).map rD).getD (.tup []) = rD ((kget kv z.1).getD []) := by cases kget kv z.1 <;> rfl
      rw [eg]
      have old : ((kget kv z.1).getD []).length ≤ l ∧ (∀ y ∈ (kget kv z.1).getD [], y.natAbs ≤ i * 2 ^ c) := by
        cases hk : kget kv z.1 with
        | none => exact ⟨Nat.zero_le _, fun _ h => nomatch h⟩
        | some r =>
          obtain ⟨c1, c2, _⟩ := h4 _ (kget_mem hk)
          exact ⟨c1, c2⟩
      refine s_sum n (by omega) (by omega) hW ?_
      simp only [e_var, v_v, v_o, e_non, e_bl, e_int, e_str, e_nil, e_dnil, e_cons, con_, e_tup, ls_, e_lst, e_bin, e_neg, int_, e_nt, e_and, e_or, e_ife, e_cmp, e_isc, e_call, e_pick, pick_, e_b1, e_b2, e_isin, e_ix, e_slc, e_rng1, e_rng2, e_enm, e_zp, zp_l, zp_t, e_comp, turn_, oc_s, oc_n, cmp_nil, cmp_cons, x_asg, x_par, x_sto, sto_, x_app, app_, x_ext, ext_, x_ex, x_pop, pop_, x_popj, x_ret, ret_v, ret_o, ret_k, x_ifs, x_brk, x_cnt, x_pas, sq_n, sq_b, sq_c, sq_r, x_seq, forB_, x_fr, whlC_, x_whl, okK_some, okK_ite, okK_map, okK_bind, trK_t, trK_f, trK_map, K2_some, K3_some, frz, bindT, wipe, R.d_v, R.d_o, R.d_k, R.st_v, R.st_o, R.st_k, binD, cmpD, truth, isinD, ix_d, ix_l, ix_t, get_d, e_get, e_rev, e_scons, x_par3, aI0, aI1, b1_len_d, b1_int, b1_intb, b1_sorted_d, partD, slcD, b1_len_l, b1_len_t, b1_len_s, b1_abs, b1_all, b1_any, b1_sum, b1_tup_l, b1_tup_t, b1_lst_l, b1_lst_t, b1_max, b1_min, b1_sorted, b2D, iscD, items, begin_, List.map_cons, List.map_nil, List.replicate_succ, List.replicate_zero, List.nil_append, List.cons_append, List.getElem?_cons_zero, List.getElem?_cons_succ, List.set_cons_zero, List.set_cons_succ, Option.bind_some, Option.map_some, Nat.reduceSub, Nat.reduceAdd, Int.toNat_natCast, Bool.not_false, Bool.not_true, okK_none]
      rw [set_kv (by rw [sizeLine_eq]; omega), okK_some, hI]
      have fresh : ∀ y ∈ strip (padd ((kget kv z.1).getD []) z.2 (· + ·)), y.natAbs ≤ (i + 1) * 2 ^ c := strip_bd fun y hy => by
        obtain ⟨j, rfl⟩ := padd_mem y hy
        have h1 := getD_le old.2 j
        have h2 := getD_le b2 j
        rw [Nat.succ_mul]
        omega
      refine ⟨rfl, kput kv z.1 (strip (padd ((kget kv z.1).getD []) z.2 (· + ·))), _, _, kput_nodup h1, fun y hy => ?_, ?_, fun y hy => ?_, fun e N => ?_, rfl⟩
      · rcases kput_mem y hy with ⟨e1, _⟩ | h
        · rw [e1, strip_idem]
        · exact h2 y h
      · have := kput_len (kv := kv) (e := z.1) (s := strip (padd ((kget kv z.1).getD []) z.2 (· + ·)))
        omega
      · rcases kput_mem y hy with ⟨e1, e2⟩ | h
        · rw [e1, e2]
          refine ⟨?_, fresh, b3⟩
          have := strip_len (padd ((kget kv z.1).getD []) z.2 (· + ·))
          rw [padd_len] at this
          omega
        · obtain ⟨c1, c2, c3⟩ := h4 y h
          exact ⟨c1, fun u hu => Nat.le_trans (c2 u hu) (Nat.mul_le_mul_right _ (by omega)), c3⟩
      · rw [kput_cf h1, List.take_add_one, hpi, cf_app, at_strip, at_padd, kget_cf h1, ← h5, h5 z.1]
        show _ = _ + cf [z] e N
        rw [cf_cons, cf_nil]
        by_cases he : e = z.1
        · subst he
          rw [if_pos rfl, if_pos rfl, ← h5]
          omega
        · rw [if_neg he, if_neg (fun q => he q.symm)]
          omega
  · rintro ρ t' hi
    rw [hI] at hi
    obtain ⟨rfl, kv, y2, y3, h1, h2, h3, h4, h5, rfl⟩ := hi
    rw [List.length_map] at h3 h4 h5
    have hk : ((keys kv).map fun e => ((e : Nat) : Int)).length < 64 := by
      rw [List.length_map, keys, List.length_map]
      omega
    simp only [e_var, v_v, v_o, e_non, e_bl, e_int, e_str, e_nil, e_dnil, e_cons, con_, e_tup, ls_, e_lst, e_bin, e_neg, int_, e_nt, e_and, e_or, e_ife, e_cmp, e_isc, e_call, e_pick, pick_, e_b1, e_b2, e_isin, e_ix, e_slc, e_rng1, e_rng2, e_enm, e_zp, zp_l, zp_t, e_comp, turn_, oc_s, oc_n, cmp_nil, x_asg, x_par, x_sto, sto_, x_app, app_, x_ext, ext_, x_ex, x_pop, pop_, x_popj, x_ret, ret_v, ret_o, ret_k, x_ifs, x_brk, x_cnt, x_pas, sq_b, sq_c, sq_r, x_seq, forB_, x_fr, whlC_, x_whl, okK_some, okK_ite, okK_map, okK_bind, trK_t, trK_f, trK_map, K2_some, K3_some, frz, bindT, wipe, R.d_v, R.d_o, R.d_k, R.st_v, R.st_o, R.st_k, binD, cmpD, truth, isinD, ix_d, ix_l, ix_t, get_d, e_get, e_rev, e_scons, x_par3, aI0, aI1, b1_len_d, b1_int, b1_intb, b1_sorted_d, partD, slcD, b1_len_l, b1_len_t, b1_len_s, b1_abs, b1_all, b1_any, b1_sum, b1_tup_l, b1_tup_t, b1_lst_l, b1_lst_t, b1_max, b1_min, b1_sorted, b2D, iscD, items, begin_, List.map_cons, List.map_nil, List.replicate_succ, List.replicate_zero, List.nil_append, List.cons_append, List.getElem?_cons_zero, List.getElem?_cons_succ, List.set_cons_zero, List.set_cons_succ, Option.bind_some, Option.map_some, Nat.reduceSub, Nat.reduceAdd, Int.toNat_natCast, Bool.not_false, Bool.not_true, okK_none, sq_n, ints_ks, if_pos hk]
    refine ⟨?_, ?_⟩
    · rw [isort_keys, List.length_map, List.length_map, List.length_mergeSort, keys, List.length_map, sizeLine_eq]
      omega
    refine srt_read h1 (fun d => match d with | .int i => (kget kv i.toNat).bind fun r => if r = [] then none else some (pr (i.toNat, r)) | _ => none) (fun e r hr => ?_) (fun e r hr => ?_) ?_
    · show ((kget kv (Int.toNat ((e : Nat) : Int))).bind fun r => if r = [] then none else some (pr (Int.toNat ((e : Nat) : Int), r))) = _
      rw [Int.toNat_natCast, hr]
      rfl
    · have hv := valD_kv kv e
      rw [hr] at hv
      simp only [e_var, v_v, v_o, e_non, e_bl, e_int, e_str, e_nil, e_dnil, e_cons, con_, e_tup, ls_, e_lst, e_bin, e_neg, int_, e_nt, e_and, e_or, e_ife, e_cmp, e_isc, e_call, e_pick, pick_, e_b1, e_b2, e_isin, e_ix, e_slc, e_rng1, e_rng2, e_enm, e_zp, zp_l, zp_t, e_comp, turn_, oc_s, oc_n, cmp_nil, cmp_cons, x_asg, x_par, x_sto, sto_, x_app, app_, x_ext, ext_, x_ex, x_pop, pop_, x_popj, x_ret, ret_v, ret_o, ret_k, x_ifs, x_brk, x_cnt, x_pas, sq_n, sq_b, sq_c, sq_r, x_seq, forB_, x_fr, whlC_, x_whl, okK_some, okK_ite, okK_map, okK_bind, trK_t, trK_f, trK_map, K2_some, K3_some, frz, bindT, wipe, R.d_v, R.d_o, R.d_k, R.st_v, R.st_o, R.st_k, binD, cmpD, truth, isinD, ix_d, ix_l, ix_t, get_d, e_get, e_rev, e_scons, x_par3, aI0, aI1, b1_len_d, b1_int, b1_intb, b1_sorted_d, partD, slcD, b1_len_l, b1_len_t, b1_len_s, b1_abs, b1_all, b1_any, b1_sum, b1_tup_l, b1_tup_t, b1_lst_l, b1_lst_t, b1_max, b1_min, b1_sorted, b2D, iscD, items, begin_, List.map_cons, List.map_nil, List.replicate_succ, List.replicate_zero, List.nil_append, List.cons_append, List.getElem?_cons_zero, List.getElem?_cons_succ, List.set_cons_zero, List.set_cons_succ, Option.bind_some, Option.map_some, Nat.reduceSub, Nat.reduceAdd, Int.toNat_natCast, Bool.not_false, Bool.not_true, okK_none, hv, eq_tup_nil, List.length_cons, List.length_nil, Int.toNat_natCast, hr, trK_b]
      refine ⟨by decide, fun z => ?_, fun z => ?_⟩
      · have z : r ≠ [] := by simpa using z
        refine ⟨by rw [sizeLine_eq]; decide, ?_⟩
        simp [z, pr]
      · have z : r = [] := by simpa using z
        simp [z]
    · refine q (srt kv) (srt_can h1 h2) (fun e N => ?_) (by have := srt_len kv; omega) (fun x hx => ?_)
      · rw [srt_cf h1 h2, h5, List.take_length]
      · obtain ⟨c1, c2, c3⟩ := h4 x ((srt_mem h1).mp hx).1
        refine ⟨c1, fun y hy => Nat.le_trans (c2 y hy) ?_, c3⟩
        rw [Nat.pow_add, Nat.mul_comm]
        exact Nat.mul_le_mul_left _ (by omega)
end PyI

set_option Elab.async false
set_option linter.all false
set_option maxRecDepth 100000
set_option maxHeartbeats 4000000
/-! drawn forms: sums, multiples, products -/
namespace PyI
open PySem PySem.Spec PyProof.Rows Rw
variable {τ : Type} {O : Pk τ} {W : Nat}
/-! products -/
theorem at_bits {xs : List Int} {c N m : Nat} (hx : ∀ x ∈ xs, x.natAbs ≤ 2 ^ c) (hl : xs.length ≤ 32) (hN : N ≤ 2 ^ m) {L : Nat} (hL : xs.length ≤ L) : (at_ xs 0 N).natAbs ≤ 2 ^ (5 + c + m * L) := by
  refine Nat.le_trans (at_le (C := 2 ^ c) (M := 2 ^ (m * L)) xs 0 hx fun j hj => ?_) ?_
  · rw [Nat.zero_add]
    refine Nat.le_trans (bc_pow N j) (Nat.le_trans (Nat.pow_le_pow_left hN j) ?_)
    rw [← Nat.pow_mul]
    exact pow_le2 (Nat.mul_le_mul_left _ (by omega))
  · rw [Nat.add_assoc, Nat.pow_add, Nat.pow_add 2 c]
    exact Nat.mul_le_mul_right _ (by omega)
theorem rpow_add (t : Rat) (a : Nat) : ∀ b, t ^ (a + b) = t ^ a * t ^ b
  | 0 => by rw [Nat.add_zero, Rat.pow_zero]; grind
  | b + 1 => by rw [← Nat.add_assoc, Rat.pow_succ, Rat.pow_succ, rpow_add t a b]; grind
theorem s200 {x m : Nat} (h1 : x ≤ 2 ^ m) (h2 : m ≤ 199) : x < 2 ^ 200 := Nat.lt_of_le_of_lt h1 (Nat.pow_lt_pow_right (by omega) (by omega))
end PyI

set_option Elab.async false
set_option linter.all false
set_option maxRecDepth 100000
set_option maxHeartbeats 4000000
/-! drawn forms: what is one; worths -/
namespace PyI
open PySem PySem.Spec PyProof.Rows Rw
variable {τ : Type} {O : Pk τ} {W : Nat}
def okE (x : D × List Int) : Bool := match x.1 with
  | .int i => decide (0 ≤ i) && decide (x.2.getLast? ≠ some 0) && decide (x.2 ≠ [])
  | _ => false
def pd (x : D × List Int) : D := .tup [x.1, rD x.2]
def gE : D → D := fun d => match d with
  | .tup [e, .tup rs] => (match intsD rs with | some r => .bl (okE (e, r)) | none => .non)
  | _ => .non
def IB (d : D) : Prop := (∃ i, d = .int i) ∨ ∃ b, d = .bl b
theorem gE_map (ds : List (D × List Int)) : (ds.map pd).map gE = (ds.map okE).map .bl := by
  rw [List.map_map, List.map_map]
  refine List.map_congr_left fun x _ => ?_
  simp only [Function.comp, pd, gE, intsD_I]
/-- the first two looks -/
theorem isd_1 (n : Nat) {F : Fs τ} (hF : F = run O W prog (n + 2)) {ds : List (D × List Int)} {t : τ} (hib : ∀ x ∈ ds, IB x.1) (hr : ∀ x ∈ ds, x.2.length ≤ 1000) {k : List D → τ → Prop} (q : k ((ds.map okE).map .bl) t) :
    K2 (compL (turnD O F [4, 5] (.and_ (.call i_is_integer (.cons (.var 4) (.nil))) (.and_ (.cmp .ge (.var 4) (.int 0)) (.and_ (.call i_is_row (.cons (.var 5) (.nil))) (.cmp .ne (.var 5) (.tup (.nil)))))) (.tup (.cons (.var 4) (.cons (.var 5) (.nil)))) (.bl true) [some (.v (.tup (ds.map pd))), none, none, none, none, none]) (ds.map pd) t) k := by
  subst hF
  refine cmp_map gE _ _ (fun d hd => ?_) ?_
  · obtain ⟨x, hx, rfl⟩ := List.mem_map.mp hd
    rcases hib x hx with ⟨i, hi⟩ | ⟨b, hi⟩
    · simp only [pd, hi, e_var, v_v, v_o, e_non, e_bl, e_int, e_str, e_nil, e_dnil, e_cons, con_, e_tup, ls_, e_lst, e_bin, e_neg, int_, e_nt, e_and, e_or, e_ife, e_cmp, e_isc, e_call, e_pick, pick_, e_b1, e_b2, e_isin, e_ix, e_slc, e_rng1, e_rng2, e_enm, e_zp, zp_l, zp_t, e_comp, turn_, oc_s, oc_n, cmp_nil, cmp_cons, x_asg, x_par, x_sto, sto_, x_app, app_, x_ext, ext_, x_ex, x_pop, pop_, x_popj, x_ret, ret_v, ret_o, ret_k, x_ifs, x_brk, x_cnt, x_pas, sq_n, sq_b, sq_c, sq_r, x_seq, forB_, x_fr, whlC_, x_whl, okK_some, okK_ite, okK_map, okK_bind, trK_t, trK_f, trK_map, K2_some, K3_some, frz, bindT, wipe, R.d_v, R.d_o, R.d_k, R.st_v, R.st_o, R.st_k, binD, cmpD, truth, isinD, ix_d, ix_l, ix_t, get_d, e_get, e_rev, e_scons, x_par3, aI0, aI1, b1_len_d, b1_int, b1_intb, b1_sorted_d, partD, slcD, b1_len_l, b1_len_t, b1_len_s, b1_abs, b1_all, b1_any, b1_sum, b1_tup_l, b1_tup_t, b1_lst_l, b1_lst_t, b1_max, b1_min, b1_sorted, b2D, iscD, items, begin_, List.map_cons, List.map_nil, List.replicate_succ, List.replicate_zero, List.nil_append, List.cons_append, List.getElem?_cons_zero, List.getElem?_cons_succ, List.set_cons_zero, List.set_cons_succ, Option.bind_some, Option.map_some, Nat.reduceSub, Nat.reduceAdd, Int.toNat_natCast, Bool.not_false, Bool.not_true, okK_none]
      refine s_int (n + 1) (by simp) ?_
      simp only [e_var, v_v, v_o, e_non, e_bl, e_int, e_str, e_nil, e_dnil, e_cons, con_, e_tup, ls_, e_lst, e_bin, e_neg, int_, e_nt, e_and, e_or, e_ife, e_cmp, e_isc, e_call, e_pick, pick_, e_b1, e_b2, e_isin, e_ix, e_slc, e_rng1, e_rng2, e_enm, e_zp, zp_l, zp_t, e_comp, turn_, oc_s, oc_n, cmp_nil, cmp_cons, x_asg, x_par, x_sto, sto_, x_app, app_, x_ext, ext_, x_ex, x_pop, pop_, x_popj, x_ret, ret_v, ret_o, ret_k, x_ifs, x_brk, x_cnt, x_pas, sq_n, sq_b, sq_c, sq_r, x_seq, forB_, x_fr, whlC_, x_whl, okK_some, okK_ite, okK_map, okK_bind, trK_t, trK_f, trK_map, K2_some, K3_some, frz, bindT, wipe, R.d_v, R.d_o, R.d_k, R.st_v, R.st_o, R.st_k, binD, cmpD, truth, isinD, ix_d, ix_l, ix_t, get_d, e_get, e_rev, e_scons, x_par3, aI0, aI1, b1_len_d, b1_int, b1_intb, b1_sorted_d, partD, slcD, b1_len_l, b1_len_t, b1_len_s, b1_abs, b1_all, b1_any, b1_sum, b1_tup_l, b1_tup_t, b1_lst_l, b1_lst_t, b1_max, b1_min, b1_sorted, b2D, iscD, items, begin_, List.map_cons, List.map_nil, List.replicate_succ, List.replicate_zero, List.nil_append, List.cons_append, List.getElem?_cons_zero, List.getElem?_cons_succ, List.set_cons_zero, List.set_cons_succ, Option.bind_some, Option.map_some, Nat.reduceSub, Nat.reduceAdd, Int.toNat_natCast, Bool.not_false, Bool.not_true, okK_none, isI]
      refine trK_b.mpr ⟨fun h1 => ?_, fun h1 => ?_⟩
      · refine s_isrow n (hr x hx) ?_
        simp only [e_var, v_v, v_o, e_non, e_bl, e_int, e_str, e_nil, e_dnil, e_cons, con_, e_tup, ls_, e_lst, e_bin, e_neg, int_, e_nt, e_and, e_or, e_ife, e_cmp, e_isc, e_call, e_pick, pick_, e_b1, e_b2, e_isin, e_ix, e_slc, e_rng1, e_rng2, e_enm, e_zp, zp_l, zp_t, e_comp, turn_, oc_s, oc_n, cmp_nil, cmp_cons, x_asg, x_par, x_sto, sto_, x_app, app_, x_ext, ext_, x_ex, x_pop, pop_, x_popj, x_ret, ret_v, ret_o, ret_k, x_ifs, x_brk, x_cnt, x_pas, sq_n, sq_b, sq_c, sq_r, x_seq, forB_, x_fr, whlC_, x_whl, okK_some, okK_ite, okK_map, okK_bind, trK_t, trK_f, trK_map, K2_some, K3_some, frz, bindT, wipe, R.d_v, R.d_o, R.d_k, R.st_v, R.st_o, R.st_k, binD, cmpD, truth, isinD, ix_d, ix_l, ix_t, get_d, e_get, e_rev, e_scons, x_par3, aI0, aI1, b1_len_d, b1_int, b1_intb, b1_sorted_d, partD, slcD, b1_len_l, b1_len_t, b1_len_s, b1_abs, b1_all, b1_any, b1_sum, b1_tup_l, b1_tup_t, b1_lst_l, b1_lst_t, b1_max, b1_min, b1_sorted, b2D, iscD, items, begin_, List.map_cons, List.map_nil, List.replicate_succ, List.replicate_zero, List.nil_append, List.cons_append, List.getElem?_cons_zero, List.getElem?_cons_succ, List.set_cons_zero, List.set_cons_succ, Option.bind_some, Option.map_some, Nat.reduceSub, Nat.reduceAdd, Int.toNat_natCast, Bool.not_false, Bool.not_true, okK_none, eq_tup_nil, List.length_nil]
        refine trK_b.mpr ⟨fun h2 => ⟨Nat.zero_le _, ?_, trivial⟩, fun h2 => ?_⟩
        · show some (D.bl _) = some (gE (.tup [.int i, rD x.2]))
          simp only [gE, intsD_I, okE, h2]
          rw [show decide (0 ≤ i) = true from h1]
          simp
        · refine ⟨?_, trivial⟩
          show some (D.bl _) = some (gE (.tup [.int i, rD x.2]))
          simp only [gE, intsD_I, okE, h2]
          simp
      · refine ⟨?_, trivial⟩
        show some (D.bl _) = some (gE (.tup [.int i, rD x.2]))
        have h1 : decide (0 ≤ i) = false := h1
        simp only [gE, intsD_I, okE, h1]
        simp
    · simp only [pd, hi, e_var, v_v, v_o, e_non, e_bl, e_int, e_str, e_nil, e_dnil, e_cons, con_, e_tup, ls_, e_lst, e_bin, e_neg, int_, e_nt, e_and, e_or, e_ife, e_cmp, e_isc, e_call, e_pick, pick_, e_b1, e_b2, e_isin, e_ix, e_slc, e_rng1, e_rng2, e_enm, e_zp, zp_l, zp_t, e_comp, turn_, oc_s, oc_n, cmp_nil, cmp_cons, x_asg, x_par, x_sto, sto_, x_app, app_, x_ext, ext_, x_ex, x_pop, pop_, x_popj, x_ret, ret_v, ret_o, ret_k, x_ifs, x_brk, x_cnt, x_pas, sq_n, sq_b, sq_c, sq_r, x_seq, forB_, x_fr, whlC_, x_whl, okK_some, okK_ite, okK_map, okK_bind, trK_t, trK_f, trK_map, K2_some, K3_some, frz, bindT, wipe, R.d_v, R.d_o, R.d_k, R.st_v, R.st_o, R.st_k, binD, cmpD, truth, isinD, ix_d, ix_l, ix_t, get_d, e_get, e_rev, e_scons, x_par3, aI0, aI1, b1_len_d, b1_int, b1_intb, b1_sorted_d, partD, slcD, b1_len_l, b1_len_t, b1_len_s, b1_abs, b1_all, b1_any, b1_sum, b1_tup_l, b1_tup_t, b1_lst_l, b1_lst_t, b1_max, b1_min, b1_sorted, b2D, iscD, items, begin_, List.map_cons, List.map_nil, List.replicate_succ, List.replicate_zero, List.nil_append, List.cons_append, List.getElem?_cons_zero, List.getElem?_cons_succ, List.set_cons_zero, List.set_cons_succ, Option.bind_some, Option.map_some, Nat.reduceSub, Nat.reduceAdd, Int.toNat_natCast, Bool.not_false, Bool.not_true, okK_none]
      refine s_int (n + 1) (by simp) ?_
      simp only [e_var, v_v, v_o, e_non, e_bl, e_int, e_str, e_nil, e_dnil, e_cons, con_, e_tup, ls_, e_lst, e_bin, e_neg, int_, e_nt, e_and, e_or, e_ife, e_cmp, e_isc, e_call, e_pick, pick_, e_b1, e_b2, e_isin, e_ix, e_slc, e_rng1, e_rng2, e_enm, e_zp, zp_l, zp_t, e_comp, turn_, oc_s, oc_n, cmp_nil, cmp_cons, x_asg, x_par, x_sto, sto_, x_app, app_, x_ext, ext_, x_ex, x_pop, pop_, x_popj, x_ret, ret_v, ret_o, ret_k, x_ifs, x_brk, x_cnt, x_pas, sq_n, sq_b, sq_c, sq_r, x_seq, forB_, x_fr, whlC_, x_whl, okK_some, okK_ite, okK_map, okK_bind, trK_t, trK_f, trK_map, K2_some, K3_some, frz, bindT, wipe, R.d_v, R.d_o, R.d_k, R.st_v, R.st_o, R.st_k, binD, cmpD, truth, isinD, ix_d, ix_l, ix_t, get_d, e_get, e_rev, e_scons, x_par3, aI0, aI1, b1_len_d, b1_int, b1_intb, b1_sorted_d, partD, slcD, b1_len_l, b1_len_t, b1_len_s, b1_abs, b1_all, b1_any, b1_sum, b1_tup_l, b1_tup_t, b1_lst_l, b1_lst_t, b1_max, b1_min, b1_sorted, b2D, iscD, items, begin_, List.map_cons, List.map_nil, List.replicate_succ, List.replicate_zero, List.nil_append, List.cons_append, List.getElem?_cons_zero, List.getElem?_cons_succ, List.set_cons_zero, List.set_cons_succ, Option.bind_some, Option.map_some, Nat.reduceSub, Nat.reduceAdd, Int.toNat_natCast, Bool.not_false, Bool.not_true, okK_none, isI]
      refine ⟨?_, trivial⟩
      show some (D.bl _) = some (gE (.tup [.bl b, rD x.2]))
      simp only [gE, intsD_I, okE]
  · rw [gE_map]
    exact q
theorem all_true {α : Type} (l : List α) : (l.map fun _ => true).all id = true := by simp
theorem s_isd_no (n : Nat) {ds : List (D × List Int)} {t : τ} (hib : ∀ x ∈ ds, IB x.1) (hr : ∀ x ∈ ds, x.2.length ≤ 1000) (hl : ds.length ≤ 1000) (hn : ds.all okE = false) {Q : R → τ → Prop} (q : Q (.v (.bl false)) t) : K2 (run O W prog (n + 3) i_is_drawn [.tup (ds.map pd)] t) Q := by
  refine run_ (fn := f_is_drawn) rfl rfl ?_
  unfold f_is_drawn b_is_drawn
  rw [x_seq]
  simp only [e_var, v_v, v_o, e_non, e_bl, e_int, e_str, e_nil, e_dnil, e_cons, con_, e_tup, ls_, e_lst, e_bin, e_neg, int_, e_nt, e_and, e_or, e_ife, e_cmp, e_isc, e_call, e_pick, pick_, e_b1, e_b2, e_isin, e_ix, e_slc, e_rng1, e_rng2, e_enm, e_zp, zp_l, zp_t, e_comp, turn_, oc_s, oc_n, cmp_nil, x_asg, x_par, x_sto, sto_, x_app, app_, x_ext, ext_, x_ex, x_pop, pop_, x_popj, x_ret, ret_v, ret_o, ret_k, x_ifs, x_brk, x_cnt, x_pas, sq_b, sq_c, sq_r, x_seq, forB_, x_fr, whlC_, x_whl, okK_some, okK_ite, okK_map, okK_bind, trK_t, trK_f, trK_map, K2_some, K3_some, frz, bindT, wipe, R.d_v, R.d_o, R.d_k, R.st_v, R.st_o, R.st_k, binD, cmpD, truth, isinD, ix_d, ix_l, ix_t, get_d, e_get, e_rev, e_scons, x_par3, aI0, aI1, b1_len_d, b1_int, b1_intb, b1_sorted_d, partD, slcD, b1_len_l, b1_len_t, b1_len_s, b1_abs, b1_all, b1_any, b1_sum, b1_tup_l, b1_tup_t, b1_lst_l, b1_lst_t, b1_max, b1_min, b1_sorted, b2D, iscD, items, begin_, List.map_cons, List.map_nil, List.replicate_succ, List.replicate_zero, List.nil_append, List.cons_append, List.getElem?_cons_zero, List.getElem?_cons_succ, List.set_cons_zero, List.set_cons_succ, Option.bind_some, Option.map_some, Nat.reduceSub, Nat.reduceAdd, Int.toNat_natCast, Bool.not_false, Bool.not_true, okK_none]
  refine ⟨by rw [List.length_map, sizeLine_eq]; omega, ?_⟩
  refine cmp_map (fun _ => .bl true) _ _ (fun d hd => ?_) ?_
  · obtain ⟨x, hx, rfl⟩ := List.mem_map.mp hd
    simp only [pd, e_var, v_v, v_o, e_non, e_bl, e_int, e_str, e_nil, e_dnil, e_cons, con_, e_tup, ls_, e_lst, e_bin, e_neg, int_, e_nt, e_and, e_or, e_ife, e_cmp, e_isc, e_call, e_pick, pick_, e_b1, e_b2, e_isin, e_ix, e_slc, e_rng1, e_rng2, e_enm, e_zp, zp_l, zp_t, e_comp, turn_, oc_s, oc_n, cmp_nil, cmp_cons, x_asg, x_par, x_sto, sto_, x_app, app_, x_ext, ext_, x_ex, x_pop, pop_, x_popj, x_ret, ret_v, ret_o, ret_k, x_ifs, x_brk, x_cnt, x_pas, sq_n, sq_b, sq_c, sq_r, x_seq, forB_, x_fr, whlC_, x_whl, okK_some, okK_ite, okK_map, okK_bind, trK_t, trK_f, trK_map, K2_some, K3_some, frz, bindT, wipe, R.d_v, R.d_o, R.d_k, R.st_v, R.st_o, R.st_k, binD, cmpD, truth, isinD, ix_d, ix_l, ix_t, get_d, e_get, e_rev, e_scons, x_par3, aI0, aI1, b1_len_d, b1_int, b1_intb, b1_sorted_d, partD, slcD, b1_len_l, b1_len_t, b1_len_s, b1_abs, b1_all, b1_any, b1_sum, b1_tup_l, b1_tup_t, b1_lst_l, b1_lst_t, b1_max, b1_min, b1_sorted, b2D, iscD, items, begin_, List.map_cons, List.map_nil, List.replicate_succ, List.replicate_zero, List.nil_append, List.cons_append, List.getElem?_cons_zero, List.getElem?_cons_succ, List.set_cons_zero, List.set_cons_succ, Option.bind_some, Option.map_some, Nat.reduceSub, Nat.reduceAdd, Int.toNat_natCast, Bool.not_false, Bool.not_true, okK_none, eq_int, List.length_cons, List.length_nil]
    exact ⟨rfl, trivial⟩
  · rw [show (ds.map pd).map (fun _ => D.bl true) = (ds.map fun _ => true).map .bl by simp [Function.comp], boolsD_I]
    simp only [e_var, v_v, v_o, e_non, e_bl, e_int, e_str, e_nil, e_dnil, e_cons, con_, e_tup, ls_, e_lst, e_bin, e_neg, int_, e_nt, e_and, e_or, e_ife, e_cmp, e_isc, e_call, e_pick, pick_, e_b1, e_b2, e_isin, e_ix, e_slc, e_rng1, e_rng2, e_enm, e_zp, zp_l, zp_t, e_comp, turn_, oc_s, oc_n, cmp_nil, x_asg, x_par, x_sto, sto_, x_app, app_, x_ext, ext_, x_ex, x_pop, pop_, x_popj, x_ret, ret_v, ret_o, ret_k, x_ifs, x_brk, x_cnt, x_pas, sq_b, sq_c, sq_r, x_seq, forB_, x_fr, whlC_, x_whl, okK_some, okK_ite, okK_map, okK_bind, trK_t, trK_f, trK_map, K2_some, K3_some, frz, bindT, wipe, R.d_v, R.d_o, R.d_k, R.st_v, R.st_o, R.st_k, binD, cmpD, truth, isinD, ix_d, ix_l, ix_t, get_d, e_get, e_rev, e_scons, x_par3, aI0, aI1, b1_len_d, b1_int, b1_intb, b1_sorted_d, partD, slcD, b1_len_l, b1_len_t, b1_len_s, b1_abs, b1_all, b1_any, b1_sum, b1_tup_l, b1_tup_t, b1_lst_l, b1_lst_t, b1_max, b1_min, b1_sorted, b2D, iscD, items, begin_, List.map_cons, List.map_nil, List.replicate_succ, List.replicate_zero, List.nil_append, List.cons_append, List.getElem?_cons_zero, List.getElem?_cons_succ, List.set_cons_zero, List.set_cons_succ, Option.bind_some, Option.map_some, Nat.reduceSub, Nat.reduceAdd, Int.toNat_natCast, Bool.not_false, Bool.not_true, okK_none, all_true]
    rw [sq_n, x_seq]
    simp only [e_var, v_v, v_o, e_non, e_bl, e_int, e_str, e_nil, e_dnil, e_cons, con_, e_tup, ls_, e_lst, e_bin, e_neg, int_, e_nt, e_and, e_or, e_ife, e_cmp, e_isc, e_call, e_pick, pick_, e_b1, e_b2, e_isin, e_ix, e_slc, e_rng1, e_rng2, e_enm, e_zp, zp_l, zp_t, e_comp, turn_, oc_s, oc_n, cmp_nil, x_asg, x_par, x_sto, sto_, x_app, app_, x_ext, ext_, x_ex, x_pop, pop_, x_popj, x_ret, ret_v, ret_o, ret_k, x_ifs, x_brk, x_cnt, x_pas, sq_b, sq_c, sq_r, x_seq, forB_, x_fr, whlC_, x_whl, okK_some, okK_ite, okK_map, okK_bind, trK_t, trK_f, trK_map, K2_some, K3_some, frz, bindT, wipe, R.d_v, R.d_o, R.d_k, R.st_v, R.st_o, R.st_k, binD, cmpD, truth, isinD, ix_d, ix_l, ix_t, get_d, e_get, e_rev, e_scons, x_par3, aI0, aI1, b1_len_d, b1_int, b1_intb, b1_sorted_d, partD, slcD, b1_len_l, b1_len_t, b1_len_s, b1_abs, b1_all, b1_any, b1_sum, b1_tup_l, b1_tup_t, b1_lst_l, b1_lst_t, b1_max, b1_min, b1_sorted, b2D, iscD, items, begin_, List.map_cons, List.map_nil, List.replicate_succ, List.replicate_zero, List.nil_append, List.cons_append, List.getElem?_cons_zero, List.getElem?_cons_succ, List.set_cons_zero, List.set_cons_succ, Option.bind_some, Option.map_some, Nat.reduceSub, Nat.reduceAdd, Int.toNat_natCast, Bool.not_false, Bool.not_true, okK_none]
    refine ⟨by rw [List.length_map, sizeLine_eq]; omega, ?_⟩
    refine isd_1 n rfl hib hr ?_
    rw [boolsD_I]
    have e : (ds.map okE).all id = false := by rw [List.all_map]; exact hn
    simp only [e_var, v_v, v_o, e_non, e_bl, e_int, e_str, e_nil, e_dnil, e_cons, con_, e_tup, ls_, e_lst, e_bin, e_neg, int_, e_nt, e_and, e_or, e_ife, e_cmp, e_isc, e_call, e_pick, pick_, e_b1, e_b2, e_isin, e_ix, e_slc, e_rng1, e_rng2, e_enm, e_zp, zp_l, zp_t, e_comp, turn_, oc_s, oc_n, cmp_nil, x_asg, x_par, x_sto, sto_, x_app, app_, x_ext, ext_, x_ex, x_pop, pop_, x_popj, x_ret, ret_v, ret_o, ret_k, x_ifs, x_brk, x_cnt, x_pas, sq_b, sq_c, sq_r, x_seq, forB_, x_fr, whlC_, x_whl, okK_some, okK_ite, okK_map, okK_bind, trK_t, trK_f, trK_map, K2_some, K3_some, frz, bindT, wipe, R.d_v, R.d_o, R.d_k, R.st_v, R.st_o, R.st_k, binD, cmpD, truth, isinD, ix_d, ix_l, ix_t, get_d, e_get, e_rev, e_scons, x_par3, aI0, aI1, b1_len_d, b1_int, b1_intb, b1_sorted_d, partD, slcD, b1_len_l, b1_len_t, b1_len_s, b1_abs, b1_all, b1_any, b1_sum, b1_tup_l, b1_tup_t, b1_lst_l, b1_lst_t, b1_max, b1_min, b1_sorted, b2D, iscD, items, begin_, List.map_cons, List.map_nil, List.replicate_succ, List.replicate_zero, List.nil_append, List.cons_append, List.getElem?_cons_zero, List.getElem?_cons_succ, List.set_cons_zero, List.set_cons_succ, Option.bind_some, Option.map_some, Nat.reduceSub, Nat.reduceAdd, Int.toNat_natCast, Bool.not_false, Bool.not_true, okK_none, e]
    exact q
def adjl : List Int → List Bool
  | x :: y :: r => decide (x < y) :: adjl (y :: r)
  | _ => []
abbrev pdi (x : Int × List Int) : D := pd (.int x.1, x.2)
theorem pdi_get {x : Int × List Int} {i : Int} (h : i = 0) {k : D → Prop} : okK (ixD (pdi x) (.int i)) k ↔ k (.int x.1) := by
  subst h
  show okK (L2.atI [D.int x.1, rD x.2] 0) k ↔ _
  rw [aI0, okK_some]
theorem adj_map : ∀ ds : List (Int × List Int), (pairs (ds.map pdi) ((ds.map pdi).drop 1)).map (fun d => match d with | .tup [.tup [.int x, _], .tup [.int y, _]] => D.bl (decide (x < y)) | _ => .non) = (adjl (ds.map (·.1))).map D.bl
  | [] => rfl
  | [x] => rfl
  | x :: y :: r => by
    have ih := adj_map (y :: r)
    simp only [List.map_cons, List.drop_succ_cons, List.drop_zero, pairs, adjl] at ih ⊢
    rw [ih]
    rfl
theorem adj_mem : ∀ (l m : List (Int × List Int)), ∀ d ∈ pairs (l.map pdi) (m.map pdi), ∃ x y : Int × List Int, d = .tup [pdi x, pdi y]
  | [], m, d, h => nomatch h
  | x :: l, [], d, h => nomatch h
  | x :: l, y :: m, d, h => by
    rcases List.mem_cons.mp h with rfl | h
    · exact ⟨x, y, rfl⟩
    · exact adj_mem l m d h
theorem s_isd_ok (n : Nat) {ds : List (Int × List Int)} {t : τ} (hr : ∀ x ∈ ds, x.2.length ≤ 1000) (hl : ds.length ≤ 1000) (hn : ∀ x ∈ ds, okE (.int x.1, x.2) = true) {Q : R → τ → Prop} (q : Q (.v (.bl ((adjl (ds.map (·.1))).all id))) t) : K2 (run O W prog (n + 3) i_is_drawn [.tup (ds.map pdi)] t) Q := by
  have e0 : ds.map pdi = (ds.map fun x => (D.int x.1, x.2)).map pd := by simp [Function.comp]
  have hib : ∀ x ∈ ds.map fun x => (D.int x.1, x.2), IB x.1 := fun x hx => by
    obtain ⟨y, _, rfl⟩ := List.mem_map.mp hx
    exact .inl ⟨_, rfl⟩
  have hr' : ∀ x ∈ ds.map fun x => (D.int x.1, x.2), x.2.length ≤ 1000 := fun x hx => by
    obtain ⟨y, hy, rfl⟩ := List.mem_map.mp hx
    exact hr y hy
  have hn' : ((ds.map fun x => (D.int x.1, x.2)).map okE).all id = true := by
    rw [List.all_map, List.all_map, List.all_eq_true]
    exact hn
  refine run_ (fn := f_is_drawn) rfl rfl ?_
  unfold f_is_drawn b_is_drawn
  rw [x_seq]
  simp only [e_var, v_v, v_o, e_non, e_bl, e_int, e_str, e_nil, e_dnil, e_cons, con_, e_tup, ls_, e_lst, e_bin, e_neg, int_, e_nt, e_and, e_or, e_ife, e_cmp, e_isc, e_call, e_pick, pick_, e_b1, e_b2, e_isin, e_ix, e_slc, e_rng1, e_rng2, e_enm, e_zp, zp_l, zp_t, e_comp, turn_, oc_s, oc_n, cmp_nil, x_asg, x_par, x_sto, sto_, x_app, app_, x_ext, ext_, x_ex, x_pop, pop_, x_popj, x_ret, ret_v, ret_o, ret_k, x_ifs, x_brk, x_cnt, x_pas, sq_b, sq_c, sq_r, x_seq, forB_, x_fr, whlC_, x_whl, okK_some, okK_ite, okK_map, okK_bind, trK_t, trK_f, trK_map, K2_some, K3_some, frz, bindT, wipe, R.d_v, R.d_o, R.d_k, R.st_v, R.st_o, R.st_k, binD, cmpD, truth, isinD, ix_d, ix_l, ix_t, get_d, e_get, e_rev, e_scons, x_par3, aI0, aI1, b1_len_d, b1_int, b1_intb, b1_sorted_d, partD, slcD, b1_len_l, b1_len_t, b1_len_s, b1_abs, b1_all, b1_any, b1_sum, b1_tup_l, b1_tup_t, b1_lst_l, b1_lst_t, b1_max, b1_min, b1_sorted, b2D, iscD, items, begin_, List.map_cons, List.map_nil, List.replicate_succ, List.replicate_zero, List.nil_append, List.cons_append, List.getElem?_cons_zero, List.getElem?_cons_succ, List.set_cons_zero, List.set_cons_succ, Option.bind_some, Option.map_some, Nat.reduceSub, Nat.reduceAdd, Int.toNat_natCast, Bool.not_false, Bool.not_true, okK_none]
  refine ⟨by rw [List.length_map, sizeLine_eq]; omega, ?_⟩
  refine cmp_map (fun _ => .bl true) _ _ (fun d hd => ?_) ?_
  · obtain ⟨x, hx, rfl⟩ := List.mem_map.mp hd
    simp only [pd, e_var, v_v, v_o, e_non, e_bl, e_int, e_str, e_nil, e_dnil, e_cons, con_, e_tup, ls_, e_lst, e_bin, e_neg, int_, e_nt, e_and, e_or, e_ife, e_cmp, e_isc, e_call, e_pick, pick_, e_b1, e_b2, e_isin, e_ix, e_slc, e_rng1, e_rng2, e_enm, e_zp, zp_l, zp_t, e_comp, turn_, oc_s, oc_n, cmp_nil, cmp_cons, x_asg, x_par, x_sto, sto_, x_app, app_, x_ext, ext_, x_ex, x_pop, pop_, x_popj, x_ret, ret_v, ret_o, ret_k, x_ifs, x_brk, x_cnt, x_pas, sq_n, sq_b, sq_c, sq_r, x_seq, forB_, x_fr, whlC_, x_whl, okK_some, okK_ite, okK_map, okK_bind, trK_t, trK_f, trK_map, K2_some, K3_some, frz, bindT, wipe, R.d_v, R.d_o, R.d_k, R.st_v, R.st_o, R.st_k, binD, cmpD, truth, isinD, ix_d, ix_l, ix_t, get_d, e_get, e_rev, e_scons, x_par3, aI0, aI1, b1_len_d, b1_int, b1_intb, b1_sorted_d, partD, slcD, b1_len_l, b1_len_t, b1_len_s, b1_abs, b1_all, b1_any, b1_sum, b1_tup_l, b1_tup_t, b1_lst_l, b1_lst_t, b1_max, b1_min, b1_sorted, b2D, iscD, items, begin_, List.map_cons, List.map_nil, List.replicate_succ, List.replicate_zero, List.nil_append, List.cons_append, List.getElem?_cons_zero, List.getElem?_cons_succ, List.set_cons_zero, List.set_cons_succ, Option.bind_some, Option.map_some, Nat.reduceSub, Nat.reduceAdd, Int.toNat_natCast, Bool.not_false, Bool.not_true, okK_none, eq_int, List.length_cons, List.length_nil]
    exact ⟨rfl, trivial⟩
  · rw [show (ds.map pdi).map (fun _ => D.bl true) = (ds.map fun _ => true).map .bl by simp [Function.comp], boolsD_I]
    simp only [e_var, v_v, v_o, e_non, e_bl, e_int, e_str, e_nil, e_dnil, e_cons, con_, e_tup, ls_, e_lst, e_bin, e_neg, int_, e_nt, e_and, e_or, e_ife, e_cmp, e_isc, e_call, e_pick, pick_, e_b1, e_b2, e_isin, e_ix, e_slc, e_rng1, e_rng2, e_enm, e_zp, zp_l, zp_t, e_comp, turn_, oc_s, oc_n, cmp_nil, x_asg, x_par, x_sto, sto_, x_app, app_, x_ext, ext_, x_ex, x_pop, pop_, x_popj, x_ret, ret_v, ret_o, ret_k, x_ifs, x_brk, x_cnt, x_pas, sq_b, sq_c, sq_r, x_seq, forB_, x_fr, whlC_, x_whl, okK_some, okK_ite, okK_map, okK_bind, trK_t, trK_f, trK_map, K2_some, K3_some, frz, bindT, wipe, R.d_v, R.d_o, R.d_k, R.st_v, R.st_o, R.st_k, binD, cmpD, truth, isinD, ix_d, ix_l, ix_t, get_d, e_get, e_rev, e_scons, x_par3, aI0, aI1, b1_len_d, b1_int, b1_intb, b1_sorted_d, partD, slcD, b1_len_l, b1_len_t, b1_len_s, b1_abs, b1_all, b1_any, b1_sum, b1_tup_l, b1_tup_t, b1_lst_l, b1_lst_t, b1_max, b1_min, b1_sorted, b2D, iscD, items, begin_, List.map_cons, List.map_nil, List.replicate_succ, List.replicate_zero, List.nil_append, List.cons_append, List.getElem?_cons_zero, List.getElem?_cons_succ, List.set_cons_zero, List.set_cons_succ, Option.bind_some, Option.map_some, Nat.reduceSub, Nat.reduceAdd, Int.toNat_natCast, Bool.not_false, Bool.not_true, okK_none, all_true]
    rw [sq_n, x_seq]
    simp only [e_var, v_v, v_o, e_non, e_bl, e_int, e_str, e_nil, e_dnil, e_cons, con_, e_tup, ls_, e_lst, e_bin, e_neg, int_, e_nt, e_and, e_or, e_ife, e_cmp, e_isc, e_call, e_pick, pick_, e_b1, e_b2, e_isin, e_ix, e_slc, e_rng1, e_rng2, e_enm, e_zp, zp_l, zp_t, e_comp, turn_, oc_s, oc_n, cmp_nil, x_asg, x_par, x_sto, sto_, x_app, app_, x_ext, ext_, x_ex, x_pop, pop_, x_popj, x_ret, ret_v, ret_o, ret_k, x_ifs, x_brk, x_cnt, x_pas, sq_b, sq_c, sq_r, x_seq, forB_, x_fr, whlC_, x_whl, okK_some, okK_ite, okK_map, okK_bind, trK_t, trK_f, trK_map, K2_some, K3_some, frz, bindT, wipe, R.d_v, R.d_o, R.d_k, R.st_v, R.st_o, R.st_k, binD, cmpD, truth, isinD, ix_d, ix_l, ix_t, get_d, e_get, e_rev, e_scons, x_par3, aI0, aI1, b1_len_d, b1_int, b1_intb, b1_sorted_d, partD, slcD, b1_len_l, b1_len_t, b1_len_s, b1_abs, b1_all, b1_any, b1_sum, b1_tup_l, b1_tup_t, b1_lst_l, b1_lst_t, b1_max, b1_min, b1_sorted, b2D, iscD, items, begin_, List.map_cons, List.map_nil, List.replicate_succ, List.replicate_zero, List.nil_append, List.cons_append, List.getElem?_cons_zero, List.getElem?_cons_succ, List.set_cons_zero, List.set_cons_succ, Option.bind_some, Option.map_some, Nat.reduceSub, Nat.reduceAdd, Int.toNat_natCast, Bool.not_false, Bool.not_true, okK_none]
    refine ⟨by rw [List.length_map, sizeLine_eq]; omega, ?_⟩
    rw [e0]
    refine isd_1 n rfl hib hr' ?_
    rw [boolsD_I]
    simp only [e_var, v_v, v_o, e_non, e_bl, e_int, e_str, e_nil, e_dnil, e_cons, con_, e_tup, ls_, e_lst, e_bin, e_neg, int_, e_nt, e_and, e_or, e_ife, e_cmp, e_isc, e_call, e_pick, pick_, e_b1, e_b2, e_isin, e_ix, e_slc, e_rng1, e_rng2, e_enm, e_zp, zp_l, zp_t, e_comp, turn_, oc_s, oc_n, cmp_nil, x_asg, x_par, x_sto, sto_, x_app, app_, x_ext, ext_, x_ex, x_pop, pop_, x_popj, x_ret, ret_v, ret_o, ret_k, x_ifs, x_brk, x_cnt, x_pas, sq_b, sq_c, sq_r, x_seq, forB_, x_fr, whlC_, x_whl, okK_some, okK_ite, okK_map, okK_bind, trK_t, trK_f, trK_map, K2_some, K3_some, frz, bindT, wipe, R.d_v, R.d_o, R.d_k, R.st_v, R.st_o, R.st_k, binD, cmpD, truth, isinD, ix_d, ix_l, ix_t, get_d, e_get, e_rev, e_scons, x_par3, aI0, aI1, b1_len_d, b1_int, b1_intb, b1_sorted_d, partD, slcD, b1_len_l, b1_len_t, b1_len_s, b1_abs, b1_all, b1_any, b1_sum, b1_tup_l, b1_tup_t, b1_lst_l, b1_lst_t, b1_max, b1_min, b1_sorted, b2D, iscD, items, begin_, List.map_cons, List.map_nil, List.replicate_succ, List.replicate_zero, List.nil_append, List.cons_append, List.getElem?_cons_zero, List.getElem?_cons_succ, List.set_cons_zero, List.set_cons_succ, Option.bind_some, Option.map_some, Nat.reduceSub, Nat.reduceAdd, Int.toNat_natCast, Bool.not_false, Bool.not_true, okK_none, hn']
    rw [sq_n, ← e0]
    simp only [e_var, v_v, v_o, e_non, e_bl, e_int, e_str, e_nil, e_dnil, e_cons, con_, e_tup, ls_, e_lst, e_bin, e_neg, int_, e_nt, e_and, e_or, e_ife, e_cmp, e_isc, e_call, e_pick, pick_, e_b1, e_b2, e_isin, e_ix, e_slc, e_rng1, e_rng2, e_enm, e_zp, zp_l, zp_t, e_comp, turn_, oc_s, oc_n, cmp_nil, x_asg, x_par, x_sto, sto_, x_app, app_, x_ext, ext_, x_ex, x_pop, pop_, x_popj, x_ret, ret_v, ret_o, ret_k, x_ifs, x_brk, x_cnt, x_pas, sq_b, sq_c, sq_r, x_seq, forB_, x_fr, whlC_, x_whl, okK_some, okK_ite, okK_map, okK_bind, trK_t, trK_f, trK_map, K2_some, K3_some, frz, bindT, wipe, R.d_v, R.d_o, R.d_k, R.st_v, R.st_o, R.st_k, binD, cmpD, truth, isinD, ix_d, ix_l, ix_t, get_d, e_get, e_rev, e_scons, x_par3, aI0, aI1, b1_len_d, b1_int, b1_intb, b1_sorted_d, partD, slcD, b1_len_l, b1_len_t, b1_len_s, b1_abs, b1_all, b1_any, b1_sum, b1_tup_l, b1_tup_t, b1_lst_l, b1_lst_t, b1_max, b1_min, b1_sorted, b2D, iscD, items, begin_, List.map_cons, List.map_nil, List.replicate_succ, List.replicate_zero, List.nil_append, List.cons_append, List.getElem?_cons_zero, List.getElem?_cons_succ, List.set_cons_zero, List.set_cons_succ, Option.bind_some, Option.map_some, Nat.reduceSub, Nat.reduceAdd, Int.toNat_natCast, Bool.not_false, Bool.not_true, okK_none]
    rw [show (1 : Int) = ((1 : Nat) : Int) from rfl, cut_from]
    refine ⟨by rw [pairs_len, sizeLine_eq, List.length_map]; omega, ?_⟩
    refine cmp_map (fun d => match d with | .tup [.tup [.int x, _], .tup [.int y, _]] => .bl (decide (x < y)) | _ => .non) _ _ (fun d hd => ?_) ?_
    · rw [← List.map_drop] at hd
      obtain ⟨x, y, rfl⟩ := adj_mem _ _ d hd
      simp only [pd, e_var, v_v, v_o, e_non, e_bl, e_int, e_str, e_nil, e_dnil, e_cons, con_, e_tup, ls_, e_lst, e_bin, e_neg, int_, e_nt, e_and, e_or, e_ife, e_cmp, e_isc, e_call, e_pick, pick_, e_b1, e_b2, e_isin, e_ix, e_slc, e_rng1, e_rng2, e_enm, e_zp, zp_l, zp_t, e_comp, turn_, oc_s, oc_n, cmp_nil, cmp_cons, x_asg, x_par, x_sto, sto_, x_app, app_, x_ext, ext_, x_ex, x_pop, pop_, x_popj, x_ret, ret_v, ret_o, ret_k, x_ifs, x_brk, x_cnt, x_pas, sq_n, sq_b, sq_c, sq_r, x_seq, forB_, x_fr, whlC_, x_whl, okK_some, okK_ite, okK_map, okK_bind, trK_t, trK_f, trK_map, K2_some, K3_some, frz, bindT, wipe, R.d_v, R.d_o, R.d_k, R.st_v, R.st_o, R.st_k, binD, cmpD, truth, isinD, ix_d, ix_l, ix_t, get_d, e_get, e_rev, e_scons, x_par3, aI0, aI1, b1_len_d, b1_int, b1_intb, b1_sorted_d, partD, slcD, b1_len_l, b1_len_t, b1_len_s, b1_abs, b1_all, b1_any, b1_sum, b1_tup_l, b1_tup_t, b1_lst_l, b1_lst_t, b1_max, b1_min, b1_sorted, b2D, iscD, items, begin_, List.map_cons, List.map_nil, List.replicate_succ, List.replicate_zero, List.nil_append, List.cons_append, List.getElem?_cons_zero, List.getElem?_cons_succ, List.set_cons_zero, List.set_cons_succ, Option.bind_some, Option.map_some, Nat.reduceSub, Nat.reduceAdd, Int.toNat_natCast, Bool.not_false, Bool.not_true, okK_none]
      exact ⟨trivial, trivial⟩
    · rw [adj_map, boolsD_I]
      simp only [e_var, v_v, v_o, e_non, e_bl, e_int, e_str, e_nil, e_dnil, e_cons, con_, e_tup, ls_, e_lst, e_bin, e_neg, int_, e_nt, e_and, e_or, e_ife, e_cmp, e_isc, e_call, e_pick, pick_, e_b1, e_b2, e_isin, e_ix, e_slc, e_rng1, e_rng2, e_enm, e_zp, zp_l, zp_t, e_comp, turn_, oc_s, oc_n, cmp_nil, x_asg, x_par, x_sto, sto_, x_app, app_, x_ext, ext_, x_ex, x_pop, pop_, x_popj, x_ret, ret_v, ret_o, ret_k, x_ifs, x_brk, x_cnt, x_pas, sq_b, sq_c, sq_r, x_seq, forB_, x_fr, whlC_, x_whl, okK_some, okK_ite, okK_map, okK_bind, trK_t, trK_f, trK_map, K2_some, K3_some, frz, bindT, wipe, R.d_v, R.d_o, R.d_k, R.st_v, R.st_o, R.st_k, binD, cmpD, truth, isinD, ix_d, ix_l, ix_t, get_d, e_get, e_rev, e_scons, x_par3, aI0, aI1, b1_len_d, b1_int, b1_intb, b1_sorted_d, partD, slcD, b1_len_l, b1_len_t, b1_len_s, b1_abs, b1_all, b1_any, b1_sum, b1_tup_l, b1_tup_t, b1_lst_l, b1_lst_t, b1_max, b1_min, b1_sorted, b2D, iscD, items, begin_, List.map_cons, List.map_nil, List.replicate_succ, List.replicate_zero, List.nil_append, List.cons_append, List.getElem?_cons_zero, List.getElem?_cons_succ, List.set_cons_zero, List.set_cons_succ, Option.bind_some, Option.map_some, Nat.reduceSub, Nat.reduceAdd, Int.toNat_natCast, Bool.not_false, Bool.not_true, okK_none]
      exact q
theorem s_isd_nt (n : Nat) {d : D} {t : τ} (hd : isinD .tup d = some false) {Q : R → τ → Prop} (q : Q (.v (.bl false)) t) : K2 (run O W prog (n + 3) i_is_drawn [d] t) Q := by
  refine run_ (fn := f_is_drawn) rfl rfl ?_
  unfold f_is_drawn b_is_drawn
  rw [x_seq]
  cases d <;> first | (cases hd; done) | (simp only [e_var, v_v, v_o, e_non, e_bl, e_int, e_str, e_nil, e_dnil, e_cons, con_, e_tup, ls_, e_lst, e_bin, e_neg, int_, e_nt, e_and, e_or, e_ife, e_cmp, e_isc, e_call, e_pick, pick_, e_b1, e_b2, e_isin, e_ix, e_slc, e_rng1, e_rng2, e_enm, e_zp, zp_l, zp_t, e_comp, turn_, oc_s, oc_n, cmp_nil, x_asg, x_par, x_sto, sto_, x_app, app_, x_ext, ext_, x_ex, x_pop, pop_, x_popj, x_ret, ret_v, ret_o, ret_k, x_ifs, x_brk, x_cnt, x_pas, sq_b, sq_c, sq_r, x_seq, forB_, x_fr, whlC_, x_whl, okK_some, okK_ite, okK_map, okK_bind, trK_t, trK_f, trK_map, K2_some, K3_some, frz, bindT, wipe, R.d_v, R.d_o, R.d_k, R.st_v, R.st_o, R.st_k, binD, cmpD, truth, isinD, ix_d, ix_l, ix_t, get_d, e_get, e_rev, e_scons, x_par3, aI0, aI1, b1_len_d, b1_int, b1_intb, b1_sorted_d, partD, slcD, b1_len_l, b1_len_t, b1_len_s, b1_abs, b1_all, b1_any, b1_sum, b1_tup_l, b1_tup_t, b1_lst_l, b1_lst_t, b1_max, b1_min, b1_sorted, b2D, iscD, items, begin_, List.map_cons, List.map_nil, List.replicate_succ, List.replicate_zero, List.nil_append, List.cons_append, List.getElem?_cons_zero, List.getElem?_cons_succ, List.set_cons_zero, List.set_cons_succ, Option.bind_some, Option.map_some, Nat.reduceSub, Nat.reduceAdd, Int.toNat_natCast, Bool.not_false, Bool.not_true, okK_none]; exact q)
theorem s_isd_np (n : Nat) {ds : List D} {t : τ} (hl : ds.length ≤ 1000) (hs : ∀ d ∈ ds, (∃ x, d = pd x) ∨ d = .int 5) (hn : .int 5 ∈ ds) {Q : R → τ → Prop} (q : Q (.v (.bl false)) t) : K2 (run O W prog (n + 3) i_is_drawn [.tup ds] t) Q := by
  refine run_ (fn := f_is_drawn) rfl rfl ?_
  unfold f_is_drawn b_is_drawn
  rw [x_seq]
  simp only [e_var, v_v, v_o, e_non, e_bl, e_int, e_str, e_nil, e_dnil, e_cons, con_, e_tup, ls_, e_lst, e_bin, e_neg, int_, e_nt, e_and, e_or, e_ife, e_cmp, e_isc, e_call, e_pick, pick_, e_b1, e_b2, e_isin, e_ix, e_slc, e_rng1, e_rng2, e_enm, e_zp, zp_l, zp_t, e_comp, turn_, oc_s, oc_n, cmp_nil, x_asg, x_par, x_sto, sto_, x_app, app_, x_ext, ext_, x_ex, x_pop, pop_, x_popj, x_ret, ret_v, ret_o, ret_k, x_ifs, x_brk, x_cnt, x_pas, sq_b, sq_c, sq_r, x_seq, forB_, x_fr, whlC_, x_whl, okK_some, okK_ite, okK_map, okK_bind, trK_t, trK_f, trK_map, K2_some, K3_some, frz, bindT, wipe, R.d_v, R.d_o, R.d_k, R.st_v, R.st_o, R.st_k, binD, cmpD, truth, isinD, ix_d, ix_l, ix_t, get_d, e_get, e_rev, e_scons, x_par3, aI0, aI1, b1_len_d, b1_int, b1_intb, b1_sorted_d, partD, slcD, b1_len_l, b1_len_t, b1_len_s, b1_abs, b1_all, b1_any, b1_sum, b1_tup_l, b1_tup_t, b1_lst_l, b1_lst_t, b1_max, b1_min, b1_sorted, b2D, iscD, items, begin_, List.map_cons, List.map_nil, List.replicate_succ, List.replicate_zero, List.nil_append, List.cons_append, List.getElem?_cons_zero, List.getElem?_cons_succ, List.set_cons_zero, List.set_cons_succ, Option.bind_some, Option.map_some, Nat.reduceSub, Nat.reduceAdd, Int.toNat_natCast, Bool.not_false, Bool.not_true, okK_none]
  refine ⟨by rw [sizeLine_eq]; omega, ?_⟩
  refine cmp_map (fun d => .bl (match d with | .tup _ => true | _ => false)) _ _ (fun d hd => ?_) ?_
  · rcases hs d hd with ⟨x, rfl⟩ | rfl
    · simp only [pd, e_var, v_v, v_o, e_non, e_bl, e_int, e_str, e_nil, e_dnil, e_cons, con_, e_tup, ls_, e_lst, e_bin, e_neg, int_, e_nt, e_and, e_or, e_ife, e_cmp, e_isc, e_call, e_pick, pick_, e_b1, e_b2, e_isin, e_ix, e_slc, e_rng1, e_rng2, e_enm, e_zp, zp_l, zp_t, e_comp, turn_, oc_s, oc_n, cmp_nil, cmp_cons, x_asg, x_par, x_sto, sto_, x_app, app_, x_ext, ext_, x_ex, x_pop, pop_, x_popj, x_ret, ret_v, ret_o, ret_k, x_ifs, x_brk, x_cnt, x_pas, sq_n, sq_b, sq_c, sq_r, x_seq, forB_, x_fr, whlC_, x_whl, okK_some, okK_ite, okK_map, okK_bind, trK_t, trK_f, trK_map, K2_some, K3_some, frz, bindT, wipe, R.d_v, R.d_o, R.d_k, R.st_v, R.st_o, R.st_k, binD, cmpD, truth, isinD, ix_d, ix_l, ix_t, get_d, e_get, e_rev, e_scons, x_par3, aI0, aI1, b1_len_d, b1_int, b1_intb, b1_sorted_d, partD, slcD, b1_len_l, b1_len_t, b1_len_s, b1_abs, b1_all, b1_any, b1_sum, b1_tup_l, b1_tup_t, b1_lst_l, b1_lst_t, b1_max, b1_min, b1_sorted, b2D, iscD, items, begin_, List.map_cons, List.map_nil, List.replicate_succ, List.replicate_zero, List.nil_append, List.cons_append, List.getElem?_cons_zero, List.getElem?_cons_succ, List.set_cons_zero, List.set_cons_succ, Option.bind_some, Option.map_some, Nat.reduceSub, Nat.reduceAdd, Int.toNat_natCast, Bool.not_false, Bool.not_true, okK_none, eq_int, List.length_cons, List.length_nil]
      exact ⟨rfl, trivial⟩
    · simp only [e_var, v_v, v_o, e_non, e_bl, e_int, e_str, e_nil, e_dnil, e_cons, con_, e_tup, ls_, e_lst, e_bin, e_neg, int_, e_nt, e_and, e_or, e_ife, e_cmp, e_isc, e_call, e_pick, pick_, e_b1, e_b2, e_isin, e_ix, e_slc, e_rng1, e_rng2, e_enm, e_zp, zp_l, zp_t, e_comp, turn_, oc_s, oc_n, cmp_nil, cmp_cons, x_asg, x_par, x_sto, sto_, x_app, app_, x_ext, ext_, x_ex, x_pop, pop_, x_popj, x_ret, ret_v, ret_o, ret_k, x_ifs, x_brk, x_cnt, x_pas, sq_n, sq_b, sq_c, sq_r, x_seq, forB_, x_fr, whlC_, x_whl, okK_some, okK_ite, okK_map, okK_bind, trK_t, trK_f, trK_map, K2_some, K3_some, frz, bindT, wipe, R.d_v, R.d_o, R.d_k, R.st_v, R.st_o, R.st_k, binD, cmpD, truth, isinD, ix_d, ix_l, ix_t, get_d, e_get, e_rev, e_scons, x_par3, aI0, aI1, b1_len_d, b1_int, b1_intb, b1_sorted_d, partD, slcD, b1_len_l, b1_len_t, b1_len_s, b1_abs, b1_all, b1_any, b1_sum, b1_tup_l, b1_tup_t, b1_lst_l, b1_lst_t, b1_max, b1_min, b1_sorted, b2D, iscD, items, begin_, List.map_cons, List.map_nil, List.replicate_succ, List.replicate_zero, List.nil_append, List.cons_append, List.getElem?_cons_zero, List.getElem?_cons_succ, List.set_cons_zero, List.set_cons_succ, Option.bind_some, Option.map_some, Nat.reduceSub, Nat.reduceAdd, Int.toNat_natCast, Bool.not_false, Bool.not_true, okK_none]
      exact ⟨trivial, trivial⟩
  · rw [show ds.map (fun d => D.bl (match d with | .tup _ => true | _ => false)) = (ds.map fun d => match d with | .tup _ => true | _ => false).map .bl by simp [Function.comp], boolsD_I]
    have e : (ds.map fun d => match d with | .tup _ => true | _ => false).all id = false := by
      rw [List.all_map, List.all_eq_false]
      exact ⟨_, hn, by simp⟩
    simp only [e_var, v_v, v_o, e_non, e_bl, e_int, e_str, e_nil, e_dnil, e_cons, con_, e_tup, ls_, e_lst, e_bin, e_neg, int_, e_nt, e_and, e_or, e_ife, e_cmp, e_isc, e_call, e_pick, pick_, e_b1, e_b2, e_isin, e_ix, e_slc, e_rng1, e_rng2, e_enm, e_zp, zp_l, zp_t, e_comp, turn_, oc_s, oc_n, cmp_nil, x_asg, x_par, x_sto, sto_, x_app, app_, x_ext, ext_, x_ex, x_pop, pop_, x_popj, x_ret, ret_v, ret_o, ret_k, x_ifs, x_brk, x_cnt, x_pas, sq_b, sq_c, sq_r, x_seq, forB_, x_fr, whlC_, x_whl, okK_some, okK_ite, okK_map, okK_bind, trK_t, trK_f, trK_map, K2_some, K3_some, frz, bindT, wipe, R.d_v, R.d_o, R.d_k, R.st_v, R.st_o, R.st_k, binD, cmpD, truth, isinD, ix_d, ix_l, ix_t, get_d, e_get, e_rev, e_scons, x_par3, aI0, aI1, b1_len_d, b1_int, b1_intb, b1_sorted_d, partD, slcD, b1_len_l, b1_len_t, b1_len_s, b1_abs, b1_all, b1_any, b1_sum, b1_tup_l, b1_tup_t, b1_lst_l, b1_lst_t, b1_max, b1_min, b1_sorted, b2D, iscD, items, begin_, List.map_cons, List.map_nil, List.replicate_succ, List.replicate_zero, List.nil_append, List.cons_append, List.getElem?_cons_zero, List.getElem?_cons_succ, List.set_cons_zero, List.set_cons_succ, Option.bind_some, Option.map_some, Nat.reduceSub, Nat.reduceAdd, Int.toNat_natCast, Bool.not_false, Bool.not_true, okK_none, e]
    exact q
theorem adj_lt : ∀ {l : List Int}, l.Pairwise (· < ·) → (adjl l).all id = true
  | [], _ => rfl
  | [_], _ => rfl
  | x :: y :: r, h => by
    have h1 := List.pairwise_cons.mp h
    rw [adjl, List.all_cons, adj_lt h1.2, Bool.and_true]
    exact decide_eq_true (h1.1 y (List.mem_cons_self ..))
def nI (x : Nat × List Int) : Int × List Int := ((x.1 : Nat), x.2)
theorem okE_can {a : Dn} (h : Can a) : ∀ x ∈ a, okE (nD x.1, x.2) = true := fun x hx => by
  obtain ⟨h1, h2⟩ := h.2 x hx
  have := strip_last x.2 (by rw [h2]; exact h1)
  rw [h2] at this
  simp [okE, h1, this]
theorem s_isd_can (n : Nat) {a : Dn} {t : τ} (h : Can a) (hr : ∀ x ∈ a, x.2.length ≤ 1000) (hl : a.length ≤ 1000) {Q : R → τ → Prop} (q : Q (.v (.bl true)) t) : K2 (run O W prog (n + 3) i_is_drawn [dD a] t) Q := by
  have e : a.map pr = (a.map nI).map pdi := by simp [pr, pdi, pd, nI, Function.comp]
  show K2 (run O W prog (n + 3) i_is_drawn [.tup (a.map pr)] t) Q
  rw [e]
  refine s_isd_ok n (fun x hx => ?_) (by rw [List.length_map]; exact hl) (fun x hx => ?_) ?_
  · obtain ⟨y, hy, rfl⟩ := List.mem_map.mp hx
    exact hr y hy
  · obtain ⟨y, hy, rfl⟩ := List.mem_map.mp hx
    exact okE_can h y hy
  · rw [adj_lt ?_]
    · exact q
    · rw [List.pairwise_map, List.pairwise_map]
      exact h.1.imp fun z => by show ((_ : Nat) : Int) < _; simp only [nI]; omega
/-! worths -/
theorem bits_pow {T : Nat} {t : Rat} (h : bits T t) : ∀ k, bits (T * k) (t ^ k)
  | 0 => by rw [Rat.pow_zero]; exact ⟨by show 1 ≤ _; exact Nat.one_le_two_pow, by show 1 ≤ _; exact Nat.one_le_two_pow⟩
  | k + 1 => by rw [Rat.pow_succ, Nat.mul_succ]; exact bits_mul (bits_pow h k) h
theorem Qd_int (z : Int) : Qd (z : Rat) = .tup [.int z, .int 1] := rfl
theorem s_dat (n : Nat) {a : Dn} {c l w N m T : Nat} {t : Rat} {u : τ} (hs : a.Pairwise fun x y => x.1 < y.1) (ha : bnd c l w a) (hc : c ≤ 4000) (hl : l ≤ 32) (hN : N ≤ 2 ^ m) (hm : m ≤ 99) (hT : bits T t) (hb : (a.length + 1) * (T * w + (5 + c + m * l) + 1) ≤ 8000) (hW : 1000 + w < W) {Q : R → τ → Prop} (q : Q (.v (Qd (val a N t))) u) :
    K2 (run O W prog (n + 3) i_drawn_at [dD a, nD N, Qd t] u) Q := by
  have hlen : a.length + 1 ≤ 8000 := Nat.le_trans (Nat.le_mul_of_pos_right _ (by omega)) hb
  refine run_ (fn := f_drawn_at) rfl rfl ?_
  unfold f_drawn_at b_drawn_at
  rw [x_seq]
  simp only [e_var, v_v, v_o, e_non, e_bl, e_int, e_str, e_nil, e_dnil, e_cons, con_, e_tup, ls_, e_lst, e_bin, e_neg, int_, e_nt, e_and, e_or, e_ife, e_cmp, e_isc, e_call, e_pick, pick_, e_b1, e_b2, e_isin, e_ix, e_slc, e_rng1, e_rng2, e_enm, e_zp, zp_l, zp_t, e_comp, turn_, oc_s, oc_n, cmp_nil, cmp_cons, x_asg, x_par, x_sto, sto_, x_app, app_, x_ext, ext_, x_ex, x_pop, pop_, x_popj, x_ret, ret_v, ret_o, ret_k, x_ifs, x_brk, x_cnt, x_pas, sq_b, sq_c, sq_r, x_seq, forB_, x_fr, whlC_, x_whl, okK_some, okK_ite, okK_map, okK_bind, trK_t, trK_f, trK_map, K2_some, K3_some, frz, bindT, wipe, R.d_v, R.d_o, R.d_k, R.st_v, R.st_o, R.st_k, binD, cmpD, truth, isinD, ix_d, ix_l, ix_t, get_d, e_get, e_rev, e_scons, x_par3, aI0, aI1, b1_len_d, b1_int, b1_intb, b1_sorted_d, partD, slcD, b1_len_l, b1_len_t, b1_len_s, b1_abs, b1_all, b1_any, b1_sum, b1_tup_l, b1_tup_t, b1_lst_l, b1_lst_t, b1_max, b1_min, b1_sorted, b2D, iscD, items, begin_, List.map_cons, List.map_nil, List.replicate_succ, List.replicate_zero, List.nil_append, List.cons_append, List.getElem?_cons_zero, List.getElem?_cons_succ, List.set_cons_zero, List.set_cons_succ, Option.bind_some, Option.map_some, Nat.reduceSub, Nat.reduceAdd, Int.toNat_natCast, Bool.not_false, Bool.not_true, okK_none, List.length_cons, List.length_nil]
  refine ⟨by rw [sizeLine_eq]; decide, by rw [sizeLine_eq]; decide, ?_⟩
  rw [sq_n, x_seq]
  simp only [e_var, v_v, v_o, e_non, e_bl, e_int, e_str, e_nil, e_dnil, e_cons, con_, e_tup, ls_, e_lst, e_bin, e_neg, int_, e_nt, e_and, e_or, e_ife, e_cmp, e_isc, e_call, e_pick, pick_, e_b1, e_b2, e_isin, e_ix, e_slc, e_rng1, e_rng2, e_enm, e_zp, zp_l, zp_t, e_comp, turn_, oc_s, oc_n, cmp_nil, cmp_cons, x_asg, x_par, x_sto, sto_, x_app, app_, x_ext, ext_, x_ex, x_pop, pop_, x_popj, x_ret, ret_v, ret_o, ret_k, x_ifs, x_brk, x_cnt, x_pas, sq_b, sq_c, sq_r, x_seq, forB_, x_fr, whlC_, x_whl, okK_some, okK_ite, okK_map, okK_bind, trK_t, trK_f, trK_map, K2_some, K3_some, frz, bindT, wipe, R.d_v, R.d_o, R.d_k, R.st_v, R.st_o, R.st_k, binD, cmpD, truth, isinD, ix_d, ix_l, ix_t, get_d, e_get, e_rev, e_scons, x_par3, aI0, aI1, b1_len_d, b1_int, b1_intb, b1_sorted_d, partD, slcD, b1_len_l, b1_len_t, b1_len_s, b1_abs, b1_all, b1_any, b1_sum, b1_tup_l, b1_tup_t, b1_lst_l, b1_lst_t, b1_max, b1_min, b1_sorted, b2D, iscD, items, begin_, List.map_cons, List.map_nil, List.replicate_succ, List.replicate_zero, List.nil_append, List.cons_append, List.getElem?_cons_zero, List.getElem?_cons_succ, List.set_cons_zero, List.set_cons_succ, Option.bind_some, Option.map_some, Nat.reduceSub, Nat.reduceAdd, Int.toNat_natCast, Bool.not_false, Bool.not_true, okK_none]
  refine for_lst (fun i ρ u' => u' = u ∧ ∃ (at' : Nat) (y6 y7 : Option R), (∀ x ∈ a.drop i, at' ≤ x.1) ∧ at' ≤ w ∧ bits (i * (T * w + (5 + c + m * l) + 1)) (val (a.take i) N t) ∧ ρ = [some (.v (dD a)), some (.v (nD N)), some (.v (Qd t)), some (.v (Qd (val (a.take i) N t))), some (.v (Qd (t ^ at'))), some (.v (nD at')), y6, y7])
    ⟨rfl, 0, none, none, fun _ _ => Nat.zero_le _, Nat.zero_le _, ?_, by rw [Rat.pow_zero]; rfl⟩ ?_ ?_
  · rw [List.take_zero, val_nil]
    exact ⟨Nat.zero_le _, by show 1 ≤ _; exact Nat.one_le_two_pow⟩
  · rintro i d ρ u' hd ⟨rfl, at', y6, y7, h1, h2, h3, rfl⟩
    rw [List.getElem?_map] at hd
    cases hai : a[i]? with
    | none => rw [hai] at hd; cases hd
    | some x =>
      rw [hai] at hd
      have hd : pr x = d := by simpa using hd
      subst hd
      have hia : i < a.length := (List.getElem?_eq_some_iff.mp hai).1
      obtain ⟨a1, a2, a3⟩ := ha x (List.mem_of_getElem? hai)
      have hdr : a.drop i = x :: a.drop (i + 1) := by
        rw [List.drop_eq_getElem_cons hia]
        congr 1
        exact (List.getElem?_eq_some_iff.mp hai).2
      simp only [pr, e_var, v_v, v_o, e_non, e_bl, e_int, e_str, e_nil, e_dnil, e_cons, con_, e_tup, ls_, e_lst, e_bin, e_neg, int_, e_nt, e_and, e_or, e_ife, e_cmp, e_isc, e_call, e_pick, pick_, e_b1, e_b2, e_isin, e_ix, e_slc, e_rng1, e_rng2, e_enm, e_zp, zp_l, zp_t, e_comp, turn_, oc_s, oc_n, cmp_nil, cmp_cons, x_asg, x_par, x_sto, sto_, x_app, app_, x_ext, ext_, x_ex, x_pop, pop_, x_popj, x_ret, ret_v, ret_o, ret_k, x_ifs, x_brk, x_cnt, x_pas, sq_b, sq_c, sq_r, x_seq, forB_, x_fr, whlC_, x_whl, okK_some, okK_ite, okK_map, okK_bind, trK_t, trK_f, trK_map, K2_some, K3_some, frz, bindT, wipe, R.d_v, R.d_o, R.d_k, R.st_v, R.st_o, R.st_k, binD, cmpD, truth, isinD, ix_d, ix_l, ix_t, get_d, e_get, e_rev, e_scons, x_par3, aI0, aI1, b1_len_d, b1_int, b1_intb, b1_sorted_d, partD, slcD, b1_len_l, b1_len_t, b1_len_s, b1_abs, b1_all, b1_any, b1_sum, b1_tup_l, b1_tup_t, b1_lst_l, b1_lst_t, b1_max, b1_min, b1_sorted, b2D, iscD, items, begin_, List.map_cons, List.map_nil, List.replicate_succ, List.replicate_zero, List.nil_append, List.cons_append, List.getElem?_cons_zero, List.getElem?_cons_succ, List.set_cons_zero, List.set_cons_succ, Option.bind_some, Option.map_some, Nat.reduceSub, Nat.reduceAdd, Int.toNat_natCast, Bool.not_false, Bool.not_true, okK_none]
      have hex := h1 x (by rw [hdr]; exact List.mem_cons_self ..)
      have powb : ∀ k, k ≤ w → bits (T * w) (t ^ k) := fun k hk => (bits_pow hT k).mono (Nat.mul_le_mul_left _ hk)
      have hTw : T * w + (5 + c + m * l) + 1 ≤ 8000 := Nat.le_trans (Nat.le_mul_of_pos_left _ (Nat.succ_pos _)) hb
      have hTT : T ≤ T * w := Nat.le_mul_of_pos_right _ (by omega)
      refine whl_inv (fun r ρ u2 => u2 = u' ∧ ∃ at2 : Nat, at2 + r = x.1 ∧ ρ = [some (.v (dD a)), some (.v (nD N)), some (.v (Qd t)), some (.v (Qd (val (a.take i) N t))), some (.v (Qd (t ^ at2))), some (.v (nD at2)), some (.v (nD x.1)), some (.v (rD x.2))]) W (x.1 - at') _ _ (by omega) ⟨rfl, at', by omega, rfl⟩ ?_
      rintro r ρ u2 ⟨rfl, at2, hr, rfl⟩
      simp only [e_var, v_v, v_o, e_non, e_bl, e_int, e_str, e_nil, e_dnil, e_cons, con_, e_tup, ls_, e_lst, e_bin, e_neg, int_, e_nt, e_and, e_or, e_ife, e_cmp, e_isc, e_call, e_pick, pick_, e_b1, e_b2, e_isin, e_ix, e_slc, e_rng1, e_rng2, e_enm, e_zp, zp_l, zp_t, e_comp, turn_, oc_s, oc_n, cmp_nil, cmp_cons, x_asg, x_par, x_sto, sto_, x_app, app_, x_ext, ext_, x_ex, x_pop, pop_, x_popj, x_ret, ret_v, ret_o, ret_k, x_ifs, x_brk, x_cnt, x_pas, sq_b, sq_c, sq_r, x_seq, forB_, x_fr, whlC_, x_whl, okK_some, okK_ite, okK_map, okK_bind, trK_t, trK_f, trK_map, K2_some, K3_some, frz, bindT, wipe, R.d_v, R.d_o, R.d_k, R.st_v, R.st_o, R.st_k, binD, cmpD, truth, isinD, ix_d, ix_l, ix_t, get_d, e_get, e_rev, e_scons, x_par3, aI0, aI1, b1_len_d, b1_int, b1_intb, b1_sorted_d, partD, slcD, b1_len_l, b1_len_t, b1_len_s, b1_abs, b1_all, b1_any, b1_sum, b1_tup_l, b1_tup_t, b1_lst_l, b1_lst_t, b1_max, b1_min, b1_sorted, b2D, iscD, items, begin_, List.map_cons, List.map_nil, List.replicate_succ, List.replicate_zero, List.nil_append, List.cons_append, List.getElem?_cons_zero, List.getElem?_cons_succ, List.set_cons_zero, List.set_cons_succ, Option.bind_some, Option.map_some, Nat.reduceSub, Nat.reduceAdd, Int.toNat_natCast, Bool.not_false, Bool.not_true, okK_none]
      refine ⟨fun z => ?_, fun z => ?_⟩
      · have z := of_decide_eq_true z
        by_cases hbig : T * w + T ≤ 8000
        · refine s_ftimes (n) (k := T * w) (m := T) (powb at2 (by omega)) hT hbig ?_
          simp only [e_var, v_v, v_o, e_non, e_bl, e_int, e_str, e_nil, e_dnil, e_cons, con_, e_tup, ls_, e_lst, e_bin, e_neg, int_, e_nt, e_and, e_or, e_ife, e_cmp, e_isc, e_call, e_pick, pick_, e_b1, e_b2, e_isin, e_ix, e_slc, e_rng1, e_rng2, e_enm, e_zp, zp_l, zp_t, e_comp, turn_, oc_s, oc_n, cmp_nil, cmp_cons, x_asg, x_par, x_sto, sto_, x_app, app_, x_ext, ext_, x_ex, x_pop, pop_, x_popj, x_ret, ret_v, ret_o, ret_k, x_ifs, x_brk, x_cnt, x_pas, sq_b, sq_c, sq_r, x_seq, forB_, x_fr, whlC_, x_whl, okK_some, okK_ite, okK_map, okK_bind, trK_t, trK_f, trK_map, K2_some, K3_some, frz, bindT, wipe, R.d_v, R.d_o, R.d_k, R.st_v, R.st_o, R.st_k, binD, cmpD, truth, isinD, ix_d, ix_l, ix_t, get_d, e_get, e_rev, e_scons, x_par3, aI0, aI1, b1_len_d, b1_int, b1_intb, b1_sorted_d, partD, slcD, b1_len_l, b1_len_t, b1_len_s, b1_abs, b1_all, b1_any, b1_sum, b1_tup_l, b1_tup_t, b1_lst_l, b1_lst_t, b1_max, b1_min, b1_sorted, b2D, iscD, items, begin_, List.map_cons, List.map_nil, List.replicate_succ, List.replicate_zero, List.nil_append, List.cons_append, List.getElem?_cons_zero, List.getElem?_cons_succ, List.set_cons_zero, List.set_cons_succ, Option.bind_some, Option.map_some, Nat.reduceSub, Nat.reduceAdd, Int.toNat_natCast, Bool.not_false, Bool.not_true, okK_none]
          refine ⟨r - 1, by omega, trivial, at2 + 1, by omega, ?_⟩
          rw [← Rat.pow_succ]
          rfl
        · exfalso
          have h2 : 2 * (T * w + (5 + c + m * l) + 1) ≤ 8000 := Nat.le_trans (Nat.mul_le_mul_right _ (by omega)) hb
          omega
      · have z := of_decide_eq_false z
        have hr0 : at2 = x.1 := by omega
        subst hr0
        rw [sq_n]
        simp only [e_var, v_v, v_o, e_non, e_bl, e_int, e_str, e_nil, e_dnil, e_cons, con_, e_tup, ls_, e_lst, e_bin, e_neg, int_, e_nt, e_and, e_or, e_ife, e_cmp, e_isc, e_call, e_pick, pick_, e_b1, e_b2, e_isin, e_ix, e_slc, e_rng1, e_rng2, e_enm, e_zp, zp_l, zp_t, e_comp, turn_, oc_s, oc_n, cmp_nil, cmp_cons, x_asg, x_par, x_sto, sto_, x_app, app_, x_ext, ext_, x_ex, x_pop, pop_, x_popj, x_ret, ret_v, ret_o, ret_k, x_ifs, x_brk, x_cnt, x_pas, sq_b, sq_c, sq_r, x_seq, forB_, x_fr, whlC_, x_whl, okK_some, okK_ite, okK_map, okK_bind, trK_t, trK_f, trK_map, K2_some, K3_some, frz, bindT, wipe, R.d_v, R.d_o, R.d_k, R.st_v, R.st_o, R.st_k, binD, cmpD, truth, isinD, ix_d, ix_l, ix_t, get_d, e_get, e_rev, e_scons, x_par3, aI0, aI1, b1_len_d, b1_int, b1_intb, b1_sorted_d, partD, slcD, b1_len_l, b1_len_t, b1_len_s, b1_abs, b1_all, b1_any, b1_sum, b1_tup_l, b1_tup_t, b1_lst_l, b1_lst_t, b1_max, b1_min, b1_sorted, b2D, iscD, items, begin_, List.map_cons, List.map_nil, List.replicate_succ, List.replicate_zero, List.nil_append, List.cons_append, List.getElem?_cons_zero, List.getElem?_cons_succ, List.set_cons_zero, List.set_cons_succ, Option.bind_some, Option.map_some, Nat.reduceSub, Nat.reduceAdd, Int.toNat_natCast, Bool.not_false, Bool.not_true, okK_none]
        refine s_at n (by have := Nat.pow_lt_pow_right (a := 2) (by omega) (show m < 100 by omega); omega) (fun y hy => Nat.lt_of_le_of_lt (a2 y hy) (Nat.pow_lt_pow_right (by omega) (by omega))) (by omega) ?_
        simp only [e_var, v_v, v_o, e_non, e_bl, e_int, e_str, e_nil, e_dnil, e_cons, con_, e_tup, ls_, e_lst, e_bin, e_neg, int_, e_nt, e_and, e_or, e_ife, e_cmp, e_isc, e_call, e_pick, pick_, e_b1, e_b2, e_isin, e_ix, e_slc, e_rng1, e_rng2, e_enm, e_zp, zp_l, zp_t, e_comp, turn_, oc_s, oc_n, cmp_nil, cmp_cons, x_asg, x_par, x_sto, sto_, x_app, app_, x_ext, ext_, x_ex, x_pop, pop_, x_popj, x_ret, ret_v, ret_o, ret_k, x_ifs, x_brk, x_cnt, x_pas, sq_b, sq_c, sq_r, x_seq, forB_, x_fr, whlC_, x_whl, okK_some, okK_ite, okK_map, okK_bind, trK_t, trK_f, trK_map, K2_some, K3_some, frz, bindT, wipe, R.d_v, R.d_o, R.d_k, R.st_v, R.st_o, R.st_k, binD, cmpD, truth, isinD, ix_d, ix_l, ix_t, get_d, e_get, e_rev, e_scons, x_par3, aI0, aI1, b1_len_d, b1_int, b1_intb, b1_sorted_d, partD, slcD, b1_len_l, b1_len_t, b1_len_s, b1_abs, b1_all, b1_any, b1_sum, b1_tup_l, b1_tup_t, b1_lst_l, b1_lst_t, b1_max, b1_min, b1_sorted, b2D, iscD, items, begin_, List.map_cons, List.map_nil, List.replicate_succ, List.replicate_zero, List.nil_append, List.cons_append, List.getElem?_cons_zero, List.getElem?_cons_succ, List.set_cons_zero, List.set_cons_succ, Option.bind_some, Option.map_some, Nat.reduceSub, Nat.reduceAdd, Int.toNat_natCast, Bool.not_false, Bool.not_true, okK_none, List.length_cons, List.length_nil]
        refine ⟨by rw [sizeLine_eq]; decide, ?_⟩
        have hz := at_bits a2 (by omega) hN (Nat.le_refl x.2.length)
        have hz' : bits (5 + c + m * l) ((at_ x.2 0 N : Int) : Rat) := (bits_int hz).mono (by have := Nat.mul_le_mul_left m a1; omega)
        have hp := powb x.1 (by omega)
        rw [← Qd_int]
        refine s_ftimes n hp hz' (by omega) ?_
        simp only [e_var, v_v, v_o, e_non, e_bl, e_int, e_str, e_nil, e_dnil, e_cons, con_, e_tup, ls_, e_lst, e_bin, e_neg, int_, e_nt, e_and, e_or, e_ife, e_cmp, e_isc, e_call, e_pick, pick_, e_b1, e_b2, e_isin, e_ix, e_slc, e_rng1, e_rng2, e_enm, e_zp, zp_l, zp_t, e_comp, turn_, oc_s, oc_n, cmp_nil, cmp_cons, x_asg, x_par, x_sto, sto_, x_app, app_, x_ext, ext_, x_ex, x_pop, pop_, x_popj, x_ret, ret_v, ret_o, ret_k, x_ifs, x_brk, x_cnt, x_pas, sq_b, sq_c, sq_r, x_seq, forB_, x_fr, whlC_, x_whl, okK_some, okK_ite, okK_map, okK_bind, trK_t, trK_f, trK_map, K2_some, K3_some, frz, bindT, wipe, R.d_v, R.d_o, R.d_k, R.st_v, R.st_o, R.st_k, binD, cmpD, truth, isinD, ix_d, ix_l, ix_t, get_d, e_get, e_rev, e_scons, x_par3, aI0, aI1, b1_len_d, b1_int, b1_intb, b1_sorted_d, partD, slcD, b1_len_l, b1_len_t, b1_len_s, b1_abs, b1_all, b1_any, b1_sum, b1_tup_l, b1_tup_t, b1_lst_l, b1_lst_t, b1_max, b1_min, b1_sorted, b2D, iscD, items, begin_, List.map_cons, List.map_nil, List.replicate_succ, List.replicate_zero, List.nil_append, List.cons_append, List.getElem?_cons_zero, List.getElem?_cons_succ, List.set_cons_zero, List.set_cons_succ, Option.bind_some, Option.map_some, Nat.reduceSub, Nat.reduceAdd, Int.toNat_natCast, Bool.not_false, Bool.not_true, okK_none]
        have hi2 : i * (T * w + (5 + c + m * l) + 1) + (T * w + (5 + c + m * l) + 1) ≤ 8000 := by
          rw [← Nat.succ_mul]
          exact Nat.le_trans (Nat.mul_le_mul_right _ (by omega)) hb
        refine s_fsum n h3 (bits_mul hp hz') (by omega) ?_
        simp only [e_var, v_v, v_o, e_non, e_bl, e_int, e_str, e_nil, e_dnil, e_cons, con_, e_tup, ls_, e_lst, e_bin, e_neg, int_, e_nt, e_and, e_or, e_ife, e_cmp, e_isc, e_call, e_pick, pick_, e_b1, e_b2, e_isin, e_ix, e_slc, e_rng1, e_rng2, e_enm, e_zp, zp_l, zp_t, e_comp, turn_, oc_s, oc_n, cmp_nil, cmp_cons, x_asg, x_par, x_sto, sto_, x_app, app_, x_ext, ext_, x_ex, x_pop, pop_, x_popj, x_ret, ret_v, ret_o, ret_k, x_ifs, x_brk, x_cnt, x_pas, sq_b, sq_c, sq_r, x_seq, forB_, x_fr, whlC_, x_whl, okK_some, okK_ite, okK_map, okK_bind, trK_t, trK_f, trK_map, K2_some, K3_some, frz, bindT, wipe, R.d_v, R.d_o, R.d_k, R.st_v, R.st_o, R.st_k, binD, cmpD, truth, isinD, ix_d, ix_l, ix_t, get_d, e_get, e_rev, e_scons, x_par3, aI0, aI1, b1_len_d, b1_int, b1_intb, b1_sorted_d, partD, slcD, b1_len_l, b1_len_t, b1_len_s, b1_abs, b1_all, b1_any, b1_sum, b1_tup_l, b1_tup_t, b1_lst_l, b1_lst_t, b1_max, b1_min, b1_sorted, b2D, iscD, items, begin_, List.map_cons, List.map_nil, List.replicate_succ, List.replicate_zero, List.nil_append, List.cons_append, List.getElem?_cons_zero, List.getElem?_cons_succ, List.set_cons_zero, List.set_cons_succ, Option.bind_some, Option.map_some, Nat.reduceSub, Nat.reduceAdd, Int.toNat_natCast, Bool.not_false, Bool.not_true, okK_none]
        have e : val (a.take (i + 1)) N t = val (a.take i) N t + t ^ x.1 * ((at_ x.2 0 N : Int) : Rat) := by
          rw [List.take_add_one, hai, val_app]
          show _ + val [x] N t = _
          rw [val_cons, val_nil]
          grind
        refine ⟨trivial, x.1, _, _, ?_, by omega, ?_, by rw [e]⟩
        · intro y hy
          rw [← List.drop_zero (l := a)] at hs
          have hs2 : (a.drop i).Pairwise fun x y => x.1 < y.1 := List.Pairwise.sublist (List.drop_sublist i a) (by simpa using hs)
          rw [hdr] at hs2
          exact Nat.le_of_lt ((List.pairwise_cons.mp hs2).1 y hy)
        · rw [e, Nat.succ_mul]
          exact (bits_add h3 (bits_mul hp hz')).mono (by omega)
  · rintro ρ u' ⟨rfl, at', y6, y7, h1, h2, h3, rfl⟩
    rw [sq_n]
    simp only [e_var, v_v, v_o, e_non, e_bl, e_int, e_str, e_nil, e_dnil, e_cons, con_, e_tup, ls_, e_lst, e_bin, e_neg, int_, e_nt, e_and, e_or, e_ife, e_cmp, e_isc, e_call, e_pick, pick_, e_b1, e_b2, e_isin, e_ix, e_slc, e_rng1, e_rng2, e_enm, e_zp, zp_l, zp_t, e_comp, turn_, oc_s, oc_n, cmp_nil, cmp_cons, x_asg, x_par, x_sto, sto_, x_app, app_, x_ext, ext_, x_ex, x_pop, pop_, x_popj, x_ret, ret_v, ret_o, ret_k, x_ifs, x_brk, x_cnt, x_pas, sq_b, sq_c, sq_r, x_seq, forB_, x_fr, whlC_, x_whl, okK_some, okK_ite, okK_map, okK_bind, trK_t, trK_f, trK_map, K2_some, K3_some, frz, bindT, wipe, R.d_v, R.d_o, R.d_k, R.st_v, R.st_o, R.st_k, binD, cmpD, truth, isinD, ix_d, ix_l, ix_t, get_d, e_get, e_rev, e_scons, x_par3, aI0, aI1, b1_len_d, b1_int, b1_intb, b1_sorted_d, partD, slcD, b1_len_l, b1_len_t, b1_len_s, b1_abs, b1_all, b1_any, b1_sum, b1_tup_l, b1_tup_t, b1_lst_l, b1_lst_t, b1_max, b1_min, b1_sorted, b2D, iscD, items, begin_, List.map_cons, List.map_nil, List.replicate_succ, List.replicate_zero, List.nil_append, List.cons_append, List.getElem?_cons_zero, List.getElem?_cons_succ, List.set_cons_zero, List.set_cons_succ, Option.bind_some, Option.map_some, Nat.reduceSub, Nat.reduceAdd, Int.toNat_natCast, Bool.not_false, Bool.not_true, okK_none, List.length_map, List.take_length]
    exact q
end PyI

set_option Elab.async false
set_option linter.all false
set_option maxRecDepth 100000
set_option maxHeartbeats 4000000
/-! drawn forms: the law's own drawing and worths -/
namespace PyI
open PySem PySem.Spec PyProof.Rows Rw
variable {τ : Type} {O : Pk τ} {W : Nat}
theorem s_ldrawn (n : Nat) (hO : PkOk O) (hW : 1000 < W) {p m : Nat} (hm : m < 1000) (hp : 1 ≤ p) (hp2 : p < 1000) {t : τ} {Q : R → τ → Prop} (q : ∀ a : Dn, Can a → a.length ≤ 3 → bnd 100 m p a → ∀ t', Q (.v (dD a)) t') :
    K2 (run O W prog (n + 3) i__law_drawn [.src, nD p, nD m] t) Q := by
  refine run_ (fn := f__law_drawn) rfl rfl ?_
  unfold f__law_drawn b__law_drawn
  rw [x_seq]
  simp only [e_var, v_v, v_o, e_non, e_bl, e_int, e_str, e_nil, e_dnil, e_cons, con_, e_tup, ls_, e_lst, e_bin, e_neg, int_, e_nt, e_and, e_or, e_ife, e_cmp, e_isc, e_call, e_pick, pick_, e_b1, e_b2, e_isin, e_ix, e_slc, e_rng1, e_rng2, e_enm, e_zp, zp_l, zp_t, e_comp, turn_, oc_s, oc_n, cmp_nil, cmp_cons, x_asg, x_par, x_sto, sto_, x_app, app_, x_ext, ext_, x_ex, x_pop, pop_, x_popj, x_ret, ret_v, ret_o, ret_k, x_ifs, x_brk, x_cnt, x_pas, sq_b, sq_c, sq_r, x_seq, forB_, x_fr, whlC_, x_whl, okK_some, okK_ite, okK_map, okK_bind, trK_t, trK_f, trK_map, K2_some, K3_some, frz, bindT, wipe, R.d_v, R.d_o, R.d_k, R.st_v, R.st_o, R.st_k, binD, cmpD, truth, isinD, ix_d, ix_l, ix_t, get_d, e_get, e_rev, e_scons, x_par3, aI0, aI1, b1_len_d, b1_int, b1_intb, b1_sorted_d, partD, slcD, b1_len_l, b1_len_t, b1_len_s, b1_abs, b1_all, b1_any, b1_sum, b1_tup_l, b1_tup_t, b1_lst_l, b1_lst_t, b1_max, b1_min, b1_sorted, b2D, iscD, items, begin_, List.map_cons, List.map_nil, List.replicate_succ, List.replicate_zero, List.nil_append, List.cons_append, List.getElem?_cons_zero, List.getElem?_cons_succ, List.set_cons_zero, List.set_cons_succ, Option.bind_some, Option.map_some, Nat.reduceSub, Nat.reduceAdd, Int.toNat_natCast, Bool.not_false, Bool.not_true, okK_none]
  rw [sq_n, x_seq]
  simp only [e_var, v_v, v_o, e_non, e_bl, e_int, e_str, e_nil, e_dnil, e_cons, con_, e_tup, ls_, e_lst, e_bin, e_neg, int_, e_nt, e_and, e_or, e_ife, e_cmp, e_isc, e_call, e_pick, pick_, e_b1, e_b2, e_isin, e_ix, e_slc, e_rng1, e_rng2, e_enm, e_zp, zp_l, zp_t, e_comp, turn_, oc_s, oc_n, cmp_nil, cmp_cons, x_asg, x_par, x_sto, sto_, x_app, app_, x_ext, ext_, x_ex, x_pop, pop_, x_popj, x_ret, ret_v, ret_o, ret_k, x_ifs, x_brk, x_cnt, x_pas, sq_b, sq_c, sq_r, x_seq, forB_, x_fr, whlC_, x_whl, okK_some, okK_ite, okK_map, okK_bind, trK_t, trK_f, trK_map, K2_some, K3_some, frz, bindT, wipe, R.d_v, R.d_o, R.d_k, R.st_v, R.st_o, R.st_k, binD, cmpD, truth, isinD, ix_d, ix_l, ix_t, get_d, e_get, e_rev, e_scons, x_par3, aI0, aI1, b1_len_d, b1_int, b1_intb, b1_sorted_d, partD, slcD, b1_len_l, b1_len_t, b1_len_s, b1_abs, b1_all, b1_any, b1_sum, b1_tup_l, b1_tup_t, b1_lst_l, b1_lst_t, b1_max, b1_min, b1_sorted, b2D, iscD, items, begin_, List.map_cons, List.map_nil, List.replicate_succ, List.replicate_zero, List.nil_append, List.cons_append, List.getElem?_cons_zero, List.getElem?_cons_succ, List.set_cons_zero, List.set_cons_succ, Option.bind_some, Option.map_some, Nat.reduceSub, Nat.reduceAdd, Int.toNat_natCast, Bool.not_false, Bool.not_true, okK_none]
  refine ⟨by decide, ?_⟩
  obtain ⟨h1, h2⟩ := hO t 4 (by omega)
  obtain ⟨j, hj⟩ : ∃ j : Nat, (O t 4).1 = (j : Int) := ⟨(O t 4).1.toNat, by omega⟩
  rw [hj] at h2 ⊢
  rw [Int.toNat_natCast]
  refine ⟨by constructor <;> omega, ?_⟩
  refine for_rng (fun i ρ t' => ∃ (kv : Dn) (y4 y5 y6 : Option R), (keys kv).Nodup ∧ (∀ z ∈ kv, strip z.2 = z.2 ∧ z.2 ≠ []) ∧ kv.length ≤ i ∧ bnd 100 m p kv ∧ ρ = [some (.v .src), some (.v (nD p)), some (.v (nD m)), some (.o (kvD kv)), y4, y5, y6])
    ⟨[], none, none, none, by simp [keys], by simp, by simp, (fun _ h => nomatch h), rfl⟩ ?_ ?_
  · rintro i ρ t' hi ⟨kv, y4, y5, y6, h3, h4, h5, h6, rfl⟩
    simp only [e_var, v_v, v_o, e_non, e_bl, e_int, e_str, e_nil, e_dnil, e_cons, con_, e_tup, ls_, e_lst, e_bin, e_neg, int_, e_nt, e_and, e_or, e_ife, e_cmp, e_isc, e_call, e_pick, pick_, e_b1, e_b2, e_isin, e_ix, e_slc, e_rng1, e_rng2, e_enm, e_zp, zp_l, zp_t, e_comp, turn_, oc_s, oc_n, cmp_nil, cmp_cons, x_asg, x_par, x_sto, sto_, x_app, app_, x_ext, ext_, x_ex, x_pop, pop_, x_popj, x_ret, ret_v, ret_o, ret_k, x_ifs, x_brk, x_cnt, x_pas, sq_b, sq_c, sq_r, x_seq, forB_, x_fr, whlC_, x_whl, okK_some, okK_ite, okK_map, okK_bind, trK_t, trK_f, trK_map, K2_some, K3_some, frz, bindT, wipe, R.d_v, R.d_o, R.d_k, R.st_v, R.st_o, R.st_k, binD, cmpD, truth, isinD, ix_d, ix_l, ix_t, get_d, e_get, e_rev, e_scons, x_par3, aI0, aI1, b1_len_d, b1_int, b1_intb, b1_sorted_d, partD, slcD, b1_len_l, b1_len_t, b1_len_s, b1_abs, b1_all, b1_any, b1_sum, b1_tup_l, b1_tup_t, b1_lst_l, b1_lst_t, b1_max, b1_min, b1_sorted, b2D, iscD, items, begin_, List.map_cons, List.map_nil, List.replicate_succ, List.replicate_zero, List.nil_append, List.cons_append, List.getElem?_cons_zero, List.getElem?_cons_succ, List.set_cons_zero, List.set_cons_succ, Option.bind_some, Option.map_some, Nat.reduceSub, Nat.reduceAdd, Int.toNat_natCast, Bool.not_false, Bool.not_true, okK_none]
    refine s_row n hO hW (by omega) fun xs hx1 hx2 t2 => ?_
    simp only [e_var, v_v, v_o, e_non, e_bl, e_int, e_str, e_nil, e_dnil, e_cons, con_, e_tup, ls_, e_lst, e_bin, e_neg, int_, e_nt, e_and, e_or, e_ife, e_cmp, e_isc, e_call, e_pick, pick_, e_b1, e_b2, e_isin, e_ix, e_slc, e_rng1, e_rng2, e_enm, e_zp, zp_l, zp_t, e_comp, turn_, oc_s, oc_n, cmp_nil, cmp_cons, x_asg, x_par, x_sto, sto_, x_app, app_, x_ext, ext_, x_ex, x_pop, pop_, x_popj, x_ret, ret_v, ret_o, ret_k, x_ifs, x_brk, x_cnt, x_pas, sq_b, sq_c, sq_r, x_seq, forB_, x_fr, whlC_, x_whl, okK_some, okK_ite, okK_map, okK_bind, trK_t, trK_f, trK_map, K2_some, K3_some, frz, bindT, wipe, R.d_v, R.d_o, R.d_k, R.st_v, R.st_o, R.st_k, binD, cmpD, truth, isinD, ix_d, ix_l, ix_t, get_d, e_get, e_rev, e_scons, x_par3, aI0, aI1, b1_len_d, b1_int, b1_intb, b1_sorted_d, partD, slcD, b1_len_l, b1_len_t, b1_len_s, b1_abs, b1_all, b1_any, b1_sum, b1_tup_l, b1_tup_t, b1_lst_l, b1_lst_t, b1_max, b1_min, b1_sorted, b2D, iscD, items, begin_, List.map_cons, List.map_nil, List.replicate_succ, List.replicate_zero, List.nil_append, List.cons_append, List.getElem?_cons_zero, List.getElem?_cons_succ, List.set_cons_zero, List.set_cons_succ, Option.bind_some, Option.map_some, Nat.reduceSub, Nat.reduceAdd, Int.toNat_natCast, Bool.not_false, Bool.not_true, okK_none]
    rw [sq_n]
    simp only [e_var, v_v, v_o, e_non, e_bl, e_int, e_str, e_nil, e_dnil, e_cons, con_, e_tup, ls_, e_lst, e_bin, e_neg, int_, e_nt, e_and, e_or, e_ife, e_cmp, e_isc, e_call, e_pick, pick_, e_b1, e_b2, e_isin, e_ix, e_slc, e_rng1, e_rng2, e_enm, e_zp, zp_l, zp_t, e_comp, turn_, oc_s, oc_n, cmp_nil, cmp_cons, x_asg, x_par, x_sto, sto_, x_app, app_, x_ext, ext_, x_ex, x_pop, pop_, x_popj, x_ret, ret_v, ret_o, ret_k, x_ifs, x_brk, x_cnt, x_pas, sq_n, sq_b, sq_c, sq_r, x_seq, forB_, x_fr, whlC_, x_whl, okK_some, okK_ite, okK_map, okK_bind, trK_t, trK_f, trK_map, K2_some, K3_some, frz, bindT, wipe, R.d_v, R.d_o, R.d_k, R.st_v, R.st_o, R.st_k, binD, cmpD, truth, isinD, ix_d, ix_l, ix_t, get_d, e_get, e_rev, e_scons, x_par3, aI0, aI1, b1_len_d, b1_int, b1_intb, b1_sorted_d, partD, slcD, b1_len_l, b1_len_t, b1_len_s, b1_abs, b1_all, b1_any, b1_sum, b1_tup_l, b1_tup_t, b1_lst_l, b1_lst_t, b1_max, b1_min, b1_sorted, b2D, iscD, items, begin_, List.map_cons, List.map_nil, List.replicate_succ, List.replicate_zero, List.nil_append, List.cons_append, List.getElem?_cons_zero, List.getElem?_cons_succ, List.set_cons_zero, List.set_cons_succ, Option.bind_some, Option.map_some, Nat.reduceSub, Nat.reduceAdd, Int.toNat_natCast, Bool.not_false, Bool.not_true, okK_none, eq_tup_nil, List.length_nil]
    refine ⟨Nat.zero_le _, trK_b.mpr ⟨fun z => ?_, fun z => ?_⟩⟩
    · have z : strip xs ≠ [] := by simpa using z
      refine ⟨by omega, ?_⟩
      obtain ⟨g1, g2⟩ := hO t2 (p : Nat) (by omega)
      obtain ⟨e, he⟩ : ∃ e : Nat, (O t2 (p : Nat)).1 = (e : Int) := ⟨(O t2 (p : Nat)).1.toNat, by omega⟩
      rw [he] at g2 ⊢
      have st := set_kv (kv := kv) (e := e) (s := strip xs) (by rw [sizeLine_eq]; omega)
      rw [st, okK_some]
      refine ⟨kput kv e (strip xs), _, _, _, kput_nodup h3, fun y hy => ?_, ?_, fun y hy => ?_, rfl⟩
      · rcases kput_mem y hy with ⟨e1, _⟩ | h
        · rw [e1]; exact ⟨strip_idem xs, z⟩
        · exact h4 y h
      · have := kput_len (kv := kv) (e := e) (s := strip xs)
        omega
      · rcases kput_mem y hy with ⟨e1, e2⟩ | h
        · rw [e1, e2]
          refine ⟨Nat.le_trans (strip_len xs) hx1, strip_bd fun v hv => ?_, by omega⟩
          exact Nat.le_trans (hx2 v hv) (by decide)
        · exact h6 y h
    · exact ⟨kv, _, _, _, h3, h4, by omega, h6, rfl⟩
  · rintro ρ t' ⟨kv, y4, y5, y6, h3, h4, h5, h6, rfl⟩
    have hk : ((keys kv).map fun e => ((e : Nat) : Int)).length < 64 := by
      rw [List.length_map, keys, List.length_map]
      omega
    rw [sq_n]
    simp only [e_var, v_v, v_o, e_non, e_bl, e_int, e_str, e_nil, e_dnil, e_cons, con_, e_tup, ls_, e_lst, e_bin, e_neg, int_, e_nt, e_and, e_or, e_ife, e_cmp, e_isc, e_call, e_pick, pick_, e_b1, e_b2, e_isin, e_ix, e_slc, e_rng1, e_rng2, e_enm, e_zp, zp_l, zp_t, e_comp, turn_, oc_s, oc_n, cmp_nil, x_asg, x_par, x_sto, sto_, x_app, app_, x_ext, ext_, x_ex, x_pop, pop_, x_popj, x_ret, ret_v, ret_o, ret_k, x_ifs, x_brk, x_cnt, x_pas, sq_b, sq_c, sq_r, x_seq, forB_, x_fr, whlC_, x_whl, okK_some, okK_ite, okK_map, okK_bind, trK_t, trK_f, trK_map, K2_some, K3_some, frz, bindT, wipe, R.d_v, R.d_o, R.d_k, R.st_v, R.st_o, R.st_k, binD, cmpD, truth, isinD, ix_d, ix_l, ix_t, get_d, e_get, e_rev, e_scons, x_par3, aI0, aI1, b1_len_d, b1_int, b1_intb, b1_sorted_d, partD, slcD, b1_len_l, b1_len_t, b1_len_s, b1_abs, b1_all, b1_any, b1_sum, b1_tup_l, b1_tup_t, b1_lst_l, b1_lst_t, b1_max, b1_min, b1_sorted, b2D, iscD, items, begin_, List.map_cons, List.map_nil, List.replicate_succ, List.replicate_zero, List.nil_append, List.cons_append, List.getElem?_cons_zero, List.getElem?_cons_succ, List.set_cons_zero, List.set_cons_succ, Option.bind_some, Option.map_some, Nat.reduceSub, Nat.reduceAdd, Int.toNat_natCast, Bool.not_false, Bool.not_true, okK_none, ints_ks, if_pos hk]
    refine ⟨?_, ?_⟩
    · rw [isort_keys, List.length_map, List.length_map, List.length_mergeSort, keys, List.length_map, sizeLine_eq]
      omega
    refine srt_read h3 (fun d => match d with | .int i => (kget kv i.toNat).bind fun r => some (pr (i.toNat, r)) | _ => none) (fun e r hr => ?_) (fun e r hr => ?_) ?_
    · show ((kget kv (Int.toNat ((e : Nat) : Int))).bind fun r => some (pr (Int.toNat ((e : Nat) : Int), r))) = _
      rw [Int.toNat_natCast, hr, if_neg (h4 _ (kget_mem hr)).2]
      rfl
    · have hv := valD_kv kv e
      rw [hr] at hv
      simp only [e_var, v_v, v_o, e_non, e_bl, e_int, e_str, e_nil, e_dnil, e_cons, con_, e_tup, ls_, e_lst, e_bin, e_neg, int_, e_nt, e_and, e_or, e_ife, e_cmp, e_isc, e_call, e_pick, pick_, e_b1, e_b2, e_isin, e_ix, e_slc, e_rng1, e_rng2, e_enm, e_zp, zp_l, zp_t, e_comp, turn_, oc_s, oc_n, cmp_nil, cmp_cons, x_asg, x_par, x_sto, sto_, x_app, app_, x_ext, ext_, x_ex, x_pop, pop_, x_popj, x_ret, ret_v, ret_o, ret_k, x_ifs, x_brk, x_cnt, x_pas, sq_n, sq_b, sq_c, sq_r, x_seq, forB_, x_fr, whlC_, x_whl, okK_some, okK_ite, okK_map, okK_bind, trK_t, trK_f, trK_map, K2_some, K3_some, frz, bindT, wipe, R.d_v, R.d_o, R.d_k, R.st_v, R.st_o, R.st_k, binD, cmpD, truth, isinD, ix_d, ix_l, ix_t, get_d, e_get, e_rev, e_scons, x_par3, aI0, aI1, b1_len_d, b1_int, b1_intb, b1_sorted_d, partD, slcD, b1_len_l, b1_len_t, b1_len_s, b1_abs, b1_all, b1_any, b1_sum, b1_tup_l, b1_tup_t, b1_lst_l, b1_lst_t, b1_max, b1_min, b1_sorted, b2D, iscD, items, begin_, List.map_cons, List.map_nil, List.replicate_succ, List.replicate_zero, List.nil_append, List.cons_append, List.getElem?_cons_zero, List.getElem?_cons_succ, List.set_cons_zero, List.set_cons_succ, Option.bind_some, Option.map_some, Nat.reduceSub, Nat.reduceAdd, Int.toNat_natCast, Bool.not_false, Bool.not_true, okK_none, hv, List.length_cons, List.length_nil, Int.toNat_natCast, hr]
      exact ⟨by rw [sizeLine_eq]; decide, rfl, trivial⟩
    · refine q (srt kv) (srt_can h3 fun x hx => (h4 x hx).1) (by have := srt_len kv; omega) (fun x hx => h6 x ((srt_mem h3).mp hx).1) t'
theorem foldl_max : ∀ (l : List Int) (x : Int), (l.foldl max x = x ∨ l.foldl max x ∈ l) ∧ x ≤ l.foldl max x ∧ ∀ y ∈ l, y ≤ l.foldl max x
  | [], x => ⟨.inl rfl, Int.le_refl _, fun _ h => nomatch h⟩
  | y :: l, x => by
    obtain ⟨h1, h2, h3⟩ := foldl_max l (max x y)
    show (l.foldl max (max x y) = x ∨ l.foldl max (max x y) ∈ y :: l) ∧ x ≤ l.foldl max (max x y) ∧ ∀ z ∈ y :: l, z ≤ l.foldl max (max x y)
    refine ⟨?_, by omega, fun z hz => ?_⟩
    · rcases h1 with h1 | h1
      · rw [h1]
        by_cases z : y ≤ x
        · exact .inl (by omega)
        · exact .inr (by rw [show max x y = y by omega]; exact List.mem_cons_self ..)
      · exact .inr (List.mem_cons_of_mem _ h1)
    · rcases List.mem_cons.mp hz with rfl | hz
      · omega
      · exact h3 z hz
theorem max_keys {a : Dn} {w : Nat} (h : ∀ x ∈ a, x.1 < w + 1) : ∃ wd : Nat, maxI ((keys a).map (fun e => ((e : Nat) : Int)) ++ [0]) = (wd : Int) ∧ wd ≤ w ∧ ∀ x ∈ a, x.1 ≤ wd := by
  have key : ∀ l : List Int, l ≠ [] → maxI l ∈ l ∧ ∀ y ∈ l, y ≤ maxI l := fun l hl => by
    cases l with
    | nil => exact absurd rfl hl
    | cons x l =>
      obtain ⟨h1, h2, h3⟩ := foldl_max l x
      refine ⟨?_, fun y hy => ?_⟩
      · rcases h1 with h1 | h1
        · show l.foldl max x ∈ _
          rw [h1]; exact List.mem_cons_self ..
        · exact List.mem_cons_of_mem _ h1
      · rcases List.mem_cons.mp hy with rfl | hy
        · exact h2
        · exact h3 y hy
  obtain ⟨k1, k2⟩ := key ((keys a).map (fun e => ((e : Nat) : Int)) ++ [0]) (by simp)
  have pos : 0 ≤ maxI ((keys a).map (fun e => ((e : Nat) : Int)) ++ [0]) := k2 0 (by simp)
  refine ⟨(maxI ((keys a).map (fun e => ((e : Nat) : Int)) ++ [0])).toNat, by omega, ?_, fun x hx => ?_⟩
  · rcases List.mem_append.mp k1 with z | z
    · obtain ⟨e, he, hq⟩ := List.mem_map.mp z
      obtain ⟨x, hx, rfl⟩ := List.mem_map.mp he
      have := h x hx
      omega
    · rw [List.mem_singleton] at z
      omega
  · have := k2 ((x.1 : Nat) : Int) (List.mem_append_left _ (List.mem_map.mpr ⟨x.1, List.mem_map_of_mem hx, rfl⟩))
    omega
/-- over one denominator -/
def tot (wd : Nat) (p q : Int) (N : Nat) (a : Dn) : Int := (a.map fun x => at_ x.2 0 N * p ^ x.1 * q ^ (wd - x.1)).sum
theorem tot_app (wd : Nat) (p q : Int) (N : Nat) : ∀ a b : Dn, tot wd p q N (a ++ b) = tot wd p q N a + tot wd p q N b
  | [], b => by show _ = 0 + _; rw [List.nil_append]; omega
  | x :: a, b => by
    have ih := tot_app wd p q N a b
    unfold tot at ih ⊢
    rw [List.cons_append, List.map_cons, List.sum_cons, ih, List.map_cons, List.sum_cons]
    omega
theorem rcast_pow (i : Int) : ∀ k : Nat, ((i ^ k : Int) : Rat) = (i : Rat) ^ k
  | 0 => by rw [Int.pow_zero, Rat.pow_zero]; rfl
  | k + 1 => by rw [Int.pow_succ, Rat.pow_succ, Rat.intCast_mul, rcast_pow i k]
theorem rmul_pow (x y : Rat) : ∀ k : Nat, (x * y) ^ k = x ^ k * y ^ k
  | 0 => by simp only [Rat.pow_zero]; grind
  | k + 1 => by simp only [Rat.pow_succ, rmul_pow x y k]; grind
theorem tot_val {wd N : Nat} {t : Rat} : ∀ {a : Dn}, (∀ x ∈ a, x.1 ≤ wd) → ((tot wd t.num t.den N a : Int) : Rat) = val a N t * ((t.den : Int) : Rat) ^ wd
  | [], _ => by
    show ((0 : Int) : Rat) = 0 * _
    have : ((0 : Int) : Rat) = 0 := rfl
    rw [this]; grind
  | x :: a, h => by
    have ih := tot_val (N := N) (t := t) fun y hy => h y (List.mem_cons_of_mem _ hy)
    have hx := h x (List.mem_cons_self ..)
    have e : tot wd t.num t.den N (x :: a) = at_ x.2 0 N * t.num ^ x.1 * (t.den : Int) ^ (wd - x.1) + tot wd t.num t.den N a := by
      unfold tot; rw [List.map_cons, List.sum_cons]
    rw [e, Rat.intCast_add, ih, val_cons, Rat.intCast_mul, Rat.intCast_mul, rcast_pow, rcast_pow]
    have hn : (t.num : Rat) = t * ((t.den : Int) : Rat) := by
      have := rat_nd t
      have hd := den_ne t
      generalize (t.num : Rat) = u at *
      generalize ((t.den : Int) : Rat) = v at *
      rw [this]; grind
    rw [hn, rmul_pow]
    have hp : ((t.den : Int) : Rat) ^ wd = ((t.den : Int) : Rat) ^ x.1 * ((t.den : Int) : Rat) ^ (wd - x.1) := by rw [← rpow_add]; congr 1; omega
    rw [hp]
    grind
theorem rpow_ne {x : Rat} (h : x ≠ 0) : ∀ k : Nat, x ^ k ≠ 0
  | 0 => by rw [Rat.pow_zero]; decide
  | k + 1 => by rw [Rat.pow_succ]; have := rpow_ne h k; grind
theorem tot_div {wd N : Nat} {t : Rat} {a : Dn} (h : ∀ x ∈ a, x.1 ≤ wd) : Rat.divInt (tot wd t.num t.den N a) ((t.den : Int) ^ wd) = val a N t := by
  rw [Rat.divInt_eq_div, tot_val h, rcast_pow]
  have := rpow_ne (den_ne t) wd
  generalize ((t.den : Int) : Rat) ^ wd = v at *
  grind
theorem pow_bits {x : Int} {T : Nat} (h : x.natAbs ≤ 2 ^ T) (k : Nat) : (x ^ k).natAbs ≤ 2 ^ (T * k) := by
  rw [Int.natAbs_pow, Nat.pow_mul]
  exact Nat.pow_le_pow_left h k
theorem s_ldat (n : Nat) {a : Dn} {c l w N m T : Nat} {t : Rat} {u : τ} (ha : bnd c l (w + 1) a) (hlen : a.length ≤ 1000) (hc : c ≤ 4000) (hl : l ≤ 32) (hN : N ≤ 2 ^ m) (hm : m ≤ 99) (hT : bits T t) (hb : T * w ≤ 8000) (hTb : T ≤ 8000) (hw : w ≤ 1000) (hW : 2 ^ 8001 ≤ W) {Q : R → τ → Prop} (q : Q (.v (Qd (val a N t))) u) :
    K2 (run O W prog (n + 3) i__law_drawn_at [dD a, nD N, Qd t] u) Q := by
  refine run_ (fn := f__law_drawn_at) rfl rfl ?_
  unfold f__law_drawn_at b__law_drawn_at
  rw [x_seq]
  simp only [e_var, v_v, v_o, e_non, e_bl, e_int, e_str, e_nil, e_dnil, e_cons, con_, e_tup, ls_, e_lst, e_bin, e_neg, int_, e_nt, e_and, e_or, e_ife, e_cmp, e_isc, e_call, e_pick, pick_, e_b1, e_b2, e_isin, e_ix, e_slc, e_rng1, e_rng2, e_enm, e_zp, zp_l, zp_t, e_comp, turn_, oc_s, oc_n, cmp_nil, x_asg, x_par, x_sto, sto_, x_app, app_, x_ext, ext_, x_ex, x_pop, pop_, x_popj, x_ret, ret_v, ret_o, ret_k, x_ifs, x_brk, x_cnt, x_pas, sq_b, sq_c, sq_r, x_seq, forB_, x_fr, whlC_, x_whl, okK_some, okK_ite, okK_map, okK_bind, trK_t, trK_f, trK_map, K2_some, K3_some, frz, bindT, wipe, R.d_v, R.d_o, R.d_k, R.st_v, R.st_o, R.st_k, binD, cmpD, truth, isinD, ix_d, ix_l, ix_t, get_d, e_get, e_rev, e_scons, x_par3, aI0, aI1, b1_len_d, b1_int, b1_intb, b1_sorted_d, partD, slcD, b1_len_l, b1_len_t, b1_len_s, b1_abs, b1_all, b1_any, b1_sum, b1_tup_l, b1_tup_t, b1_lst_l, b1_lst_t, b1_max, b1_min, b1_sorted, b2D, iscD, items, begin_, List.map_cons, List.map_nil, List.replicate_succ, List.replicate_zero, List.nil_append, List.cons_append, List.getElem?_cons_zero, List.getElem?_cons_succ, List.set_cons_zero, List.set_cons_succ, Option.bind_some, Option.map_some, Nat.reduceSub, Nat.reduceAdd, Int.toNat_natCast, Bool.not_false, Bool.not_true, okK_none, List.length_cons, List.length_nil, List.length_map]
  refine ⟨by rw [sizeLine_eq]; omega, ?_⟩
  refine cmp_map (fun d => match d with | .tup [e, _] => e | _ => .non) _ _ (fun d hd => ?_) ?_
  · obtain ⟨x, hx, rfl⟩ := List.mem_map.mp hd
    simp only [pr, e_var, v_v, v_o, e_non, e_bl, e_int, e_str, e_nil, e_dnil, e_cons, con_, e_tup, ls_, e_lst, e_bin, e_neg, int_, e_nt, e_and, e_or, e_ife, e_cmp, e_isc, e_call, e_pick, pick_, e_b1, e_b2, e_isin, e_ix, e_slc, e_rng1, e_rng2, e_enm, e_zp, zp_l, zp_t, e_comp, turn_, oc_s, oc_n, cmp_nil, cmp_cons, x_asg, x_par, x_sto, sto_, x_app, app_, x_ext, ext_, x_ex, x_pop, pop_, x_popj, x_ret, ret_v, ret_o, ret_k, x_ifs, x_brk, x_cnt, x_pas, sq_n, sq_b, sq_c, sq_r, x_seq, forB_, x_fr, whlC_, x_whl, okK_some, okK_ite, okK_map, okK_bind, trK_t, trK_f, trK_map, K2_some, K3_some, frz, bindT, wipe, R.d_v, R.d_o, R.d_k, R.st_v, R.st_o, R.st_k, binD, cmpD, truth, isinD, ix_d, ix_l, ix_t, get_d, e_get, e_rev, e_scons, x_par3, aI0, aI1, b1_len_d, b1_int, b1_intb, b1_sorted_d, partD, slcD, b1_len_l, b1_len_t, b1_len_s, b1_abs, b1_all, b1_any, b1_sum, b1_tup_l, b1_tup_t, b1_lst_l, b1_lst_t, b1_max, b1_min, b1_sorted, b2D, iscD, items, begin_, List.map_cons, List.map_nil, List.replicate_succ, List.replicate_zero, List.nil_append, List.cons_append, List.getElem?_cons_zero, List.getElem?_cons_succ, List.set_cons_zero, List.set_cons_succ, Option.bind_some, Option.map_some, Nat.reduceSub, Nat.reduceAdd, Int.toNat_natCast, Bool.not_false, Bool.not_true, okK_none]
    exact ⟨trivial, trivial⟩
  have e1 : (a.map pr).map (fun d => match d with | .tup [e, _] => e | _ => D.non) = I ((keys a).map fun e => ((e : Nat) : Int)) := by
    simp [keys, I, pr, Function.comp]
  rw [e1, show I ((keys a).map fun e => ((e : Nat) : Int)) = ((keys a).map fun e => ((e : Nat) : Int)).map D.int from rfl]
  obtain ⟨wd, w1, w2, w3⟩ := max_keys (fun x hx => (ha x hx).2.2)
  have e2 : intsD (((keys a).map fun e => ((e : Nat) : Int)).map D.int ++ [D.int 0]) = some ((keys a).map (fun e => ((e : Nat) : Int)) ++ [0]) := by
    have : ((keys a).map fun e => ((e : Nat) : Int)).map D.int ++ [D.int 0] = I ((keys a).map (fun e => ((e : Nat) : Int)) ++ [0]) := by simp [I]
    rw [this, intsD_I]
  have ne : ((keys a).map (fun e => ((e : Nat) : Int)) ++ [0]) ≠ [] := by simp
  have lk : (keys a).length = a.length := by unfold keys; rw [List.length_map]
  simp only [e_var, v_v, v_o, e_non, e_bl, e_int, e_str, e_nil, e_dnil, e_cons, con_, e_tup, ls_, e_lst, e_bin, e_neg, int_, e_nt, e_and, e_or, e_ife, e_cmp, e_isc, e_call, e_pick, pick_, e_b1, e_b2, e_isin, e_ix, e_slc, e_rng1, e_rng2, e_enm, e_zp, zp_l, zp_t, e_comp, turn_, oc_s, oc_n, cmp_nil, x_asg, x_par, x_sto, sto_, x_app, app_, x_ext, ext_, x_ex, x_pop, pop_, x_popj, x_ret, ret_v, ret_o, ret_k, x_ifs, x_brk, x_cnt, x_pas, sq_b, sq_c, sq_r, x_seq, forB_, x_fr, whlC_, x_whl, okK_some, okK_ite, okK_map, okK_bind, trK_t, trK_f, trK_map, K2_some, K3_some, frz, bindT, wipe, R.d_v, R.d_o, R.d_k, R.st_v, R.st_o, R.st_k, binD, cmpD, truth, isinD, ix_d, ix_l, ix_t, get_d, e_get, e_rev, e_scons, x_par3, aI0, aI1, b1_len_d, b1_int, b1_intb, b1_sorted_d, partD, slcD, b1_len_l, b1_len_t, b1_len_s, b1_abs, b1_all, b1_any, b1_sum, b1_tup_l, b1_tup_t, b1_lst_l, b1_lst_t, b1_max, b1_min, b1_sorted, b2D, iscD, items, begin_, List.map_cons, List.map_nil, List.replicate_succ, List.replicate_zero, List.nil_append, List.cons_append, List.getElem?_cons_zero, List.getElem?_cons_succ, List.set_cons_zero, List.set_cons_succ, Option.bind_some, Option.map_some, Nat.reduceSub, Nat.reduceAdd, Int.toNat_natCast, Bool.not_false, Bool.not_true, okK_none, e2, if_neg ne, w1, List.length_map, lk, List.length_cons, List.length_nil]
  refine ⟨by rw [sizeLine_eq]; decide, by rw [sizeLine_eq]; omega, ?_⟩
  rw [sq_n, x_seq]
  simp only [e_var, v_v, v_o, e_non, e_bl, e_int, e_str, e_nil, e_dnil, e_cons, con_, e_tup, ls_, e_lst, e_bin, e_neg, int_, e_nt, e_and, e_or, e_ife, e_cmp, e_isc, e_call, e_pick, pick_, e_b1, e_b2, e_isin, e_ix, e_slc, e_rng1, e_rng2, e_enm, e_zp, zp_l, zp_t, e_comp, turn_, oc_s, oc_n, cmp_nil, x_asg, x_par, x_sto, sto_, x_app, app_, x_ext, ext_, x_ex, x_pop, pop_, x_popj, x_ret, ret_v, ret_o, ret_k, x_ifs, x_brk, x_cnt, x_pas, sq_b, sq_c, sq_r, x_seq, forB_, x_fr, whlC_, x_whl, okK_some, okK_ite, okK_map, okK_bind, trK_t, trK_f, trK_map, K2_some, K3_some, frz, bindT, wipe, R.d_v, R.d_o, R.d_k, R.st_v, R.st_o, R.st_k, binD, cmpD, truth, isinD, ix_d, ix_l, ix_t, get_d, e_get, e_rev, e_scons, x_par3, aI0, aI1, b1_len_d, b1_int, b1_intb, b1_sorted_d, partD, slcD, b1_len_l, b1_len_t, b1_len_s, b1_abs, b1_all, b1_any, b1_sum, b1_tup_l, b1_tup_t, b1_lst_l, b1_lst_t, b1_max, b1_min, b1_sorted, b2D, iscD, items, begin_, List.map_cons, List.map_nil, List.replicate_succ, List.replicate_zero, List.nil_append, List.cons_append, List.getElem?_cons_zero, List.getElem?_cons_succ, List.set_cons_zero, List.set_cons_succ, Option.bind_some, Option.map_some, Nat.reduceSub, Nat.reduceAdd, Int.toNat_natCast, Bool.not_false, Bool.not_true, okK_none]
  rw [sq_n, x_seq]
  simp only [e_var, v_v, v_o, e_non, e_bl, e_int, e_str, e_nil, e_dnil, e_cons, con_, e_tup, ls_, e_lst, e_bin, e_neg, int_, e_nt, e_and, e_or, e_ife, e_cmp, e_isc, e_call, e_pick, pick_, e_b1, e_b2, e_isin, e_ix, e_slc, e_rng1, e_rng2, e_enm, e_zp, zp_l, zp_t, e_comp, turn_, oc_s, oc_n, cmp_nil, x_asg, x_par, x_sto, sto_, x_app, app_, x_ext, ext_, x_ex, x_pop, pop_, x_popj, x_ret, ret_v, ret_o, ret_k, x_ifs, x_brk, x_cnt, x_pas, sq_b, sq_c, sq_r, x_seq, forB_, x_fr, whlC_, x_whl, okK_some, okK_ite, okK_map, okK_bind, trK_t, trK_f, trK_map, K2_some, K3_some, frz, bindT, wipe, R.d_v, R.d_o, R.d_k, R.st_v, R.st_o, R.st_k, binD, cmpD, truth, isinD, ix_d, ix_l, ix_t, get_d, e_get, e_rev, e_scons, x_par3, aI0, aI1, b1_len_d, b1_int, b1_intb, b1_sorted_d, partD, slcD, b1_len_l, b1_len_t, b1_len_s, b1_abs, b1_all, b1_any, b1_sum, b1_tup_l, b1_tup_t, b1_lst_l, b1_lst_t, b1_max, b1_min, b1_sorted, b2D, iscD, items, begin_, List.map_cons, List.map_nil, List.replicate_succ, List.replicate_zero, List.nil_append, List.cons_append, List.getElem?_cons_zero, List.getElem?_cons_succ, List.set_cons_zero, List.set_cons_succ, Option.bind_some, Option.map_some, Nat.reduceSub, Nat.reduceAdd, Int.toNat_natCast, Bool.not_false, Bool.not_true, okK_none]
  have hTw : T * wd ≤ 8000 := Nat.le_trans (Nat.mul_le_mul_left _ w2) hb
  have hden : ((t.den : Int)).natAbs ≤ 2 ^ T := hT.den
  have dpow : ∀ k, k ≤ wd → (((t.den : Int)) ^ k).natAbs ≤ 2 ^ 8000 := fun k hk => Nat.le_trans (pow_bits hden k) (pow_le2 (Nat.le_trans (Nat.mul_le_mul_left _ hk) hTw))
  · refine ⟨by constructor <;> omega, ?_⟩
    refine for_rng (fun i ρ u' => u' = u ∧ ∃ y4 : Option R, ρ = [some (.v (dD a)), some (.v (nD N)), some (.v (Qd t)), some (.v (nD wd)), y4, some (.v (.int 0)), some (.v (.int ((t.den : Int) ^ i))), none, none, none]) ⟨rfl, none, rfl⟩ ?_ ?_
    · rintro i ρ u' hi ⟨rfl, y4, rfl⟩
      simp only [e_var, v_v, v_o, e_non, e_bl, e_int, e_str, e_nil, e_dnil, e_cons, con_, e_tup, ls_, e_lst, e_bin, e_neg, int_, e_nt, e_and, e_or, e_ife, e_cmp, e_isc, e_call, e_pick, pick_, e_b1, e_b2, e_isin, e_ix, e_slc, e_rng1, e_rng2, e_enm, e_zp, zp_l, zp_t, e_comp, turn_, oc_s, oc_n, cmp_nil, x_asg, x_par, x_sto, sto_, x_app, app_, x_ext, ext_, x_ex, x_pop, pop_, x_popj, x_ret, ret_v, ret_o, ret_k, x_ifs, x_brk, x_cnt, x_pas, sq_b, sq_c, sq_r, x_seq, forB_, x_fr, whlC_, x_whl, okK_some, okK_ite, okK_map, okK_bind, trK_t, trK_f, trK_map, K2_some, K3_some, frz, bindT, wipe, R.d_v, R.d_o, R.d_k, R.st_v, R.st_o, R.st_k, binD, cmpD, truth, isinD, ix_d, ix_l, ix_t, get_d, e_get, e_rev, e_scons, x_par3, aI0, aI1, b1_len_d, b1_int, b1_intb, b1_sorted_d, partD, slcD, b1_len_l, b1_len_t, b1_len_s, b1_abs, b1_all, b1_any, b1_sum, b1_tup_l, b1_tup_t, b1_lst_l, b1_lst_t, b1_max, b1_min, b1_sorted, b2D, iscD, items, begin_, List.map_cons, List.map_nil, List.replicate_succ, List.replicate_zero, List.nil_append, List.cons_append, List.getElem?_cons_zero, List.getElem?_cons_succ, List.set_cons_zero, List.set_cons_succ, Option.bind_some, Option.map_some, Nat.reduceSub, Nat.reduceAdd, Int.toNat_natCast, Bool.not_false, Bool.not_true, okK_none]

      refine ⟨mulM (dpow i (by omega)) (Nat.le_trans hden (pow_le2 hTb)), trivial, some (.v (.int (0 + (i : Nat)))), ?_⟩
      rw [← Int.pow_succ]
    · rintro ρ u' ⟨rfl, y4, rfl⟩
      rw [sq_n, x_seq]
      simp only [e_var, v_v, v_o, e_non, e_bl, e_int, e_str, e_nil, e_dnil, e_cons, con_, e_tup, ls_, e_lst, e_bin, e_neg, int_, e_nt, e_and, e_or, e_ife, e_cmp, e_isc, e_call, e_pick, pick_, e_b1, e_b2, e_isin, e_ix, e_slc, e_rng1, e_rng2, e_enm, e_zp, zp_l, zp_t, e_comp, turn_, oc_s, oc_n, cmp_nil, x_asg, x_par, x_sto, sto_, x_app, app_, x_ext, ext_, x_ex, x_pop, pop_, x_popj, x_ret, ret_v, ret_o, ret_k, x_ifs, x_brk, x_cnt, x_pas, sq_b, sq_c, sq_r, x_seq, forB_, x_fr, whlC_, x_whl, okK_some, okK_ite, okK_map, okK_bind, trK_t, trK_f, trK_map, K2_some, K3_some, frz, bindT, wipe, R.d_v, R.d_o, R.d_k, R.st_v, R.st_o, R.st_k, binD, cmpD, truth, isinD, ix_d, ix_l, ix_t, get_d, e_get, e_rev, e_scons, x_par3, aI0, aI1, b1_len_d, b1_int, b1_intb, b1_sorted_d, partD, slcD, b1_len_l, b1_len_t, b1_len_s, b1_abs, b1_all, b1_any, b1_sum, b1_tup_l, b1_tup_t, b1_lst_l, b1_lst_t, b1_max, b1_min, b1_sorted, b2D, iscD, items, begin_, List.map_cons, List.map_nil, List.replicate_succ, List.replicate_zero, List.nil_append, List.cons_append, List.getElem?_cons_zero, List.getElem?_cons_succ, List.set_cons_zero, List.set_cons_succ, Option.bind_some, Option.map_some, Nat.reduceSub, Nat.reduceAdd, Int.toNat_natCast, Bool.not_false, Bool.not_true, okK_none]
      refine for_lst (fun i ρ u2 => u2 = u' ∧ ∃ y4 y7 y8 y9 : Option R, ρ = [some (.v (dD a)), some (.v (nD N)), some (.v (Qd t)), some (.v (nD wd)), y4, some (.v (.int (tot wd t.num t.den N (a.take i)))), some (.v (.int ((t.den : Int) ^ wd))), y7, y8, y9]) ⟨rfl, y4, none, none, none, rfl⟩ ?_ ?_
      · rintro i d ρ u2 hd ⟨rfl, y4, y7, y8, y9, rfl⟩
        rw [List.getElem?_map] at hd
        cases hai : a[i]? with
        | none => rw [hai] at hd; cases hd
        | some x =>
          rw [hai] at hd
          have hd : pr x = d := by simpa using hd
          subst hd
          have hxa := List.mem_of_getElem? hai
          obtain ⟨a1, a2, a3⟩ := ha x hxa
          have hxw := w3 x hxa
          simp only [pr, e_var, v_v, v_o, e_non, e_bl, e_int, e_str, e_nil, e_dnil, e_cons, con_, e_tup, ls_, e_lst, e_bin, e_neg, int_, e_nt, e_and, e_or, e_ife, e_cmp, e_isc, e_call, e_pick, pick_, e_b1, e_b2, e_isin, e_ix, e_slc, e_rng1, e_rng2, e_enm, e_zp, zp_l, zp_t, e_comp, turn_, oc_s, oc_n, cmp_nil, x_asg, x_par, x_sto, sto_, x_app, app_, x_ext, ext_, x_ex, x_pop, pop_, x_popj, x_ret, ret_v, ret_o, ret_k, x_ifs, x_brk, x_cnt, x_pas, sq_b, sq_c, sq_r, x_seq, forB_, x_fr, whlC_, x_whl, okK_some, okK_ite, okK_map, okK_bind, trK_t, trK_f, trK_map, K2_some, K3_some, frz, bindT, wipe, R.d_v, R.d_o, R.d_k, R.st_v, R.st_o, R.st_k, binD, cmpD, truth, isinD, ix_d, ix_l, ix_t, get_d, e_get, e_rev, e_scons, x_par3, aI0, aI1, b1_len_d, b1_int, b1_intb, b1_sorted_d, partD, slcD, b1_len_l, b1_len_t, b1_len_s, b1_abs, b1_all, b1_any, b1_sum, b1_tup_l, b1_tup_t, b1_lst_l, b1_lst_t, b1_max, b1_min, b1_sorted, b2D, iscD, items, begin_, List.map_cons, List.map_nil, List.replicate_succ, List.replicate_zero, List.nil_append, List.cons_append, List.getElem?_cons_zero, List.getElem?_cons_succ, List.set_cons_zero, List.set_cons_succ, Option.bind_some, Option.map_some, Nat.reduceSub, Nat.reduceAdd, Int.toNat_natCast, Bool.not_false, Bool.not_true, okK_none]
          refine s_at2 n (by have := Nat.pow_lt_pow_right (a := 2) (by omega) (show m < 100 by omega); omega) (fun y hy => Nat.lt_of_le_of_lt (a2 y hy) (Nat.pow_lt_pow_right (by omega) (by omega))) (by omega) ?_
          simp only [e_var, v_v, v_o, e_non, e_bl, e_int, e_str, e_nil, e_dnil, e_cons, con_, e_tup, ls_, e_lst, e_bin, e_neg, int_, e_nt, e_and, e_or, e_ife, e_cmp, e_isc, e_call, e_pick, pick_, e_b1, e_b2, e_isin, e_ix, e_slc, e_rng1, e_rng2, e_enm, e_zp, zp_l, zp_t, e_comp, turn_, oc_s, oc_n, cmp_nil, x_asg, x_par, x_sto, sto_, x_app, app_, x_ext, ext_, x_ex, x_pop, pop_, x_popj, x_ret, ret_v, ret_o, ret_k, x_ifs, x_brk, x_cnt, x_pas, sq_b, sq_c, sq_r, x_seq, forB_, x_fr, whlC_, x_whl, okK_some, okK_ite, okK_map, okK_bind, trK_t, trK_f, trK_map, K2_some, K3_some, frz, bindT, wipe, R.d_v, R.d_o, R.d_k, R.st_v, R.st_o, R.st_k, binD, cmpD, truth, isinD, ix_d, ix_l, ix_t, get_d, e_get, e_rev, e_scons, x_par3, aI0, aI1, b1_len_d, b1_int, b1_intb, b1_sorted_d, partD, slcD, b1_len_l, b1_len_t, b1_len_s, b1_abs, b1_all, b1_any, b1_sum, b1_tup_l, b1_tup_t, b1_lst_l, b1_lst_t, b1_max, b1_min, b1_sorted, b2D, iscD, items, begin_, List.map_cons, List.map_nil, List.replicate_succ, List.replicate_zero, List.nil_append, List.cons_append, List.getElem?_cons_zero, List.getElem?_cons_succ, List.set_cons_zero, List.set_cons_succ, Option.bind_some, Option.map_some, Nat.reduceSub, Nat.reduceAdd, Int.toNat_natCast, Bool.not_false, Bool.not_true, okK_none]
          rw [sq_n, x_seq]
          simp only [e_var, v_v, v_o, e_non, e_bl, e_int, e_str, e_nil, e_dnil, e_cons, con_, e_tup, ls_, e_lst, e_bin, e_neg, int_, e_nt, e_and, e_or, e_ife, e_cmp, e_isc, e_call, e_pick, pick_, e_b1, e_b2, e_isin, e_ix, e_slc, e_rng1, e_rng2, e_enm, e_zp, zp_l, zp_t, e_comp, turn_, oc_s, oc_n, cmp_nil, x_asg, x_par, x_sto, sto_, x_app, app_, x_ext, ext_, x_ex, x_pop, pop_, x_popj, x_ret, ret_v, ret_o, ret_k, x_ifs, x_brk, x_cnt, x_pas, sq_b, sq_c, sq_r, x_seq, forB_, x_fr, whlC_, x_whl, okK_some, okK_ite, okK_map, okK_bind, trK_t, trK_f, trK_map, K2_some, K3_some, frz, bindT, wipe, R.d_v, R.d_o, R.d_k, R.st_v, R.st_o, R.st_k, binD, cmpD, truth, isinD, ix_d, ix_l, ix_t, get_d, e_get, e_rev, e_scons, x_par3, aI0, aI1, b1_len_d, b1_int, b1_intb, b1_sorted_d, partD, slcD, b1_len_l, b1_len_t, b1_len_s, b1_abs, b1_all, b1_any, b1_sum, b1_tup_l, b1_tup_t, b1_lst_l, b1_lst_t, b1_max, b1_min, b1_sorted, b2D, iscD, items, begin_, List.map_cons, List.map_nil, List.replicate_succ, List.replicate_zero, List.nil_append, List.cons_append, List.getElem?_cons_zero, List.getElem?_cons_succ, List.set_cons_zero, List.set_cons_succ, Option.bind_some, Option.map_some, Nat.reduceSub, Nat.reduceAdd, Int.toNat_natCast, Bool.not_false, Bool.not_true, okK_none]
          have hz := at_bits a2 (by omega) hN (Nat.le_refl x.2.length)
          have hz' : (at_ x.2 0 N).natAbs ≤ 2 ^ 20000 := Nat.le_trans hz (pow_le2 (by have := Nat.mul_le_mul hm (Nat.le_trans a1 hl); omega))
          have npow : ∀ k, k ≤ wd → (t.num ^ k).natAbs ≤ 2 ^ 8000 := fun k hk => Nat.le_trans (pow_bits hT.1 k) (pow_le2 (Nat.le_trans (Nat.mul_le_mul_left _ hk) hTw))
          refine ⟨by constructor <;> omega, ?_⟩
          refine for_rng (fun j ρ u3 => u3 = u2 ∧ ∃ y4 : Option R, ρ = [some (.v (dD a)), some (.v (nD N)), some (.v (Qd t)), some (.v (nD wd)), y4, some (.v (.int (tot wd t.num t.den N (a.take i)))), some (.v (.int ((t.den : Int) ^ wd))), some (.v (nD x.1)), some (.v (rD x.2)), some (.v (.int (at_ x.2 0 N * t.num ^ (min j x.1) * (t.den : Int) ^ (j - x.1))))]) ⟨rfl, y4, ?_⟩ ?_ ?_
          · rw [Nat.zero_min, Nat.zero_sub, Int.pow_zero, Int.pow_zero]
            simp
          · rintro j ρ u3 hj ⟨rfl, y4, rfl⟩
            simp only [e_var, v_v, v_o, e_non, e_bl, e_int, e_str, e_nil, e_dnil, e_cons, con_, e_tup, ls_, e_lst, e_bin, e_neg, int_, e_nt, e_and, e_or, e_ife, e_cmp, e_isc, e_call, e_pick, pick_, e_b1, e_b2, e_isin, e_ix, e_slc, e_rng1, e_rng2, e_enm, e_zp, zp_l, zp_t, e_comp, turn_, oc_s, oc_n, cmp_nil, x_asg, x_par, x_sto, sto_, x_app, app_, x_ext, ext_, x_ex, x_pop, pop_, x_popj, x_ret, ret_v, ret_o, ret_k, x_ifs, x_brk, x_cnt, x_pas, sq_b, sq_c, sq_r, x_seq, forB_, x_fr, whlC_, x_whl, okK_some, okK_ite, okK_map, okK_bind, trK_t, trK_f, trK_map, K2_some, K3_some, frz, bindT, wipe, R.d_v, R.d_o, R.d_k, R.st_v, R.st_o, R.st_k, binD, cmpD, truth, isinD, ix_d, ix_l, ix_t, get_d, e_get, e_rev, e_scons, x_par3, aI0, aI1, b1_len_d, b1_int, b1_intb, b1_sorted_d, partD, slcD, b1_len_l, b1_len_t, b1_len_s, b1_abs, b1_all, b1_any, b1_sum, b1_tup_l, b1_tup_t, b1_lst_l, b1_lst_t, b1_max, b1_min, b1_sorted, b2D, iscD, items, begin_, List.map_cons, List.map_nil, List.replicate_succ, List.replicate_zero, List.nil_append, List.cons_append, List.getElem?_cons_zero, List.getElem?_cons_succ, List.set_cons_zero, List.set_cons_succ, Option.bind_some, Option.map_some, Nat.reduceSub, Nat.reduceAdd, Int.toNat_natCast, Bool.not_false, Bool.not_true, okK_none]
  
            have hpart : (at_ x.2 0 N * t.num ^ (min j x.1) * (t.den : Int) ^ (j - x.1)).natAbs ≤ 2 ^ (20000 + 8000 + 8000) := mul_le2 (mul_le2 hz' (npow _ (by omega))) (dpow _ (by omega))
            refine trK_b.mpr ⟨fun z => ?_, fun z => ?_⟩
            · have z : ((0 : Int) + (j : Nat)) < (x.1 : Nat) := of_decide_eq_true z
              refine ⟨mulM hpart (Nat.le_trans hT.1 (pow_le2 hTb)), trivial, some (.v (.int (0 + (j : Nat)))), ?_⟩
              have e : at_ x.2 0 N * t.num ^ (min j x.1) * (t.den : Int) ^ (j - x.1) * t.num = at_ x.2 0 N * t.num ^ (min (j + 1) x.1) * (t.den : Int) ^ (j + 1 - x.1) := by
                rw [show min j x.1 = j by omega, show min (j + 1) x.1 = j + 1 by omega, show j - x.1 = 0 by omega, show j + 1 - x.1 = 0 by omega, Int.pow_succ]
                grind
              rw [e]
            · have z : ¬ ((0 : Int) + (j : Nat)) < (x.1 : Nat) := of_decide_eq_false z
              refine ⟨mulM hpart (Nat.le_trans hden (pow_le2 hTb)), trivial, some (.v (.int (0 + (j : Nat)))), ?_⟩
              have e : at_ x.2 0 N * t.num ^ (min j x.1) * (t.den : Int) ^ (j - x.1) * (t.den : Int) = at_ x.2 0 N * t.num ^ (min (j + 1) x.1) * (t.den : Int) ^ (j + 1 - x.1) := by
                rw [show min j x.1 = x.1 by omega, show min (j + 1) x.1 = x.1 by omega, show j + 1 - x.1 = (j - x.1) + 1 by omega, Int.pow_succ]
                grind
              rw [e]
          · rintro ρ u3 ⟨rfl, y4, rfl⟩
            rw [sq_n]
            simp only [e_var, v_v, v_o, e_non, e_bl, e_int, e_str, e_nil, e_dnil, e_cons, con_, e_tup, ls_, e_lst, e_bin, e_neg, int_, e_nt, e_and, e_or, e_ife, e_cmp, e_isc, e_call, e_pick, pick_, e_b1, e_b2, e_isin, e_ix, e_slc, e_rng1, e_rng2, e_enm, e_zp, zp_l, zp_t, e_comp, turn_, oc_s, oc_n, cmp_nil, x_asg, x_par, x_sto, sto_, x_app, app_, x_ext, ext_, x_ex, x_pop, pop_, x_popj, x_ret, ret_v, ret_o, ret_k, x_ifs, x_brk, x_cnt, x_pas, sq_b, sq_c, sq_r, x_seq, forB_, x_fr, whlC_, x_whl, okK_some, okK_ite, okK_map, okK_bind, trK_t, trK_f, trK_map, K2_some, K3_some, frz, bindT, wipe, R.d_v, R.d_o, R.d_k, R.st_v, R.st_o, R.st_k, binD, cmpD, truth, isinD, ix_d, ix_l, ix_t, get_d, e_get, e_rev, e_scons, x_par3, aI0, aI1, b1_len_d, b1_int, b1_intb, b1_sorted_d, partD, slcD, b1_len_l, b1_len_t, b1_len_s, b1_abs, b1_all, b1_any, b1_sum, b1_tup_l, b1_tup_t, b1_lst_l, b1_lst_t, b1_max, b1_min, b1_sorted, b2D, iscD, items, begin_, List.map_cons, List.map_nil, List.replicate_succ, List.replicate_zero, List.nil_append, List.cons_append, List.getElem?_cons_zero, List.getElem?_cons_succ, List.set_cons_zero, List.set_cons_succ, Option.bind_some, Option.map_some, Nat.reduceSub, Nat.reduceAdd, Int.toNat_natCast, Bool.not_false, Bool.not_true, okK_none]
            refine ⟨trivial, y4, some (.v (nD x.1)), some (.v (rD x.2)), some (.v (.int (at_ x.2 0 N * t.num ^ (min wd x.1) * (t.den : Int) ^ (wd - x.1)))), ?_⟩
            have e : tot wd t.num t.den N (a.take (i + 1)) = tot wd t.num t.den N (a.take i) + at_ x.2 0 N * t.num ^ (min wd x.1) * (t.den : Int) ^ (wd - x.1) := by
              rw [List.take_add_one, hai, tot_app, show min wd x.1 = x.1 by omega]
              show _ + (_ + 0) = _
              rw [Int.add_zero]
            rw [e]
      · rintro ρ u2 ⟨rfl, y4, y7, y8, y9, rfl⟩
        rw [sq_n]
        simp only [e_var, v_v, v_o, e_non, e_bl, e_int, e_str, e_nil, e_dnil, e_cons, con_, e_tup, ls_, e_lst, e_bin, e_neg, int_, e_nt, e_and, e_or, e_ife, e_cmp, e_isc, e_call, e_pick, pick_, e_b1, e_b2, e_isin, e_ix, e_slc, e_rng1, e_rng2, e_enm, e_zp, zp_l, zp_t, e_comp, turn_, oc_s, oc_n, cmp_nil, x_asg, x_par, x_sto, sto_, x_app, app_, x_ext, ext_, x_ex, x_pop, pop_, x_popj, x_ret, ret_v, ret_o, ret_k, x_ifs, x_brk, x_cnt, x_pas, sq_b, sq_c, sq_r, x_seq, forB_, x_fr, whlC_, x_whl, okK_some, okK_ite, okK_map, okK_bind, trK_t, trK_f, trK_map, K2_some, K3_some, frz, bindT, wipe, R.d_v, R.d_o, R.d_k, R.st_v, R.st_o, R.st_k, binD, cmpD, truth, isinD, ix_d, ix_l, ix_t, get_d, e_get, e_rev, e_scons, x_par3, aI0, aI1, b1_len_d, b1_int, b1_intb, b1_sorted_d, partD, slcD, b1_len_l, b1_len_t, b1_len_s, b1_abs, b1_all, b1_any, b1_sum, b1_tup_l, b1_tup_t, b1_lst_l, b1_lst_t, b1_max, b1_min, b1_sorted, b2D, iscD, items, begin_, List.map_cons, List.map_nil, List.replicate_succ, List.replicate_zero, List.nil_append, List.cons_append, List.getElem?_cons_zero, List.getElem?_cons_succ, List.set_cons_zero, List.set_cons_succ, Option.bind_some, Option.map_some, Nat.reduceSub, Nat.reduceAdd, Int.toNat_natCast, Bool.not_false, Bool.not_true, okK_none, List.length_map, List.take_length]
        have dn : (t.den : Int) ^ wd ≠ 0 := Int.pow_ne_zero (den_neI t)
        refine s_lfrac (n + 1) dn (dpow wd (Nat.le_refl _)) hW ?_
        simp only [e_var, v_v, v_o, e_non, e_bl, e_int, e_str, e_nil, e_dnil, e_cons, con_, e_tup, ls_, e_lst, e_bin, e_neg, int_, e_nt, e_and, e_or, e_ife, e_cmp, e_isc, e_call, e_pick, pick_, e_b1, e_b2, e_isin, e_ix, e_slc, e_rng1, e_rng2, e_enm, e_zp, zp_l, zp_t, e_comp, turn_, oc_s, oc_n, cmp_nil, x_asg, x_par, x_sto, sto_, x_app, app_, x_ext, ext_, x_ex, x_pop, pop_, x_popj, x_ret, ret_v, ret_o, ret_k, x_ifs, x_brk, x_cnt, x_pas, sq_b, sq_c, sq_r, x_seq, forB_, x_fr, whlC_, x_whl, okK_some, okK_ite, okK_map, okK_bind, trK_t, trK_f, trK_map, K2_some, K3_some, frz, bindT, wipe, R.d_v, R.d_o, R.d_k, R.st_v, R.st_o, R.st_k, binD, cmpD, truth, isinD, ix_d, ix_l, ix_t, get_d, e_get, e_rev, e_scons, x_par3, aI0, aI1, b1_len_d, b1_int, b1_intb, b1_sorted_d, partD, slcD, b1_len_l, b1_len_t, b1_len_s, b1_abs, b1_all, b1_any, b1_sum, b1_tup_l, b1_tup_t, b1_lst_l, b1_lst_t, b1_max, b1_min, b1_sorted, b2D, iscD, items, begin_, List.map_cons, List.map_nil, List.replicate_succ, List.replicate_zero, List.nil_append, List.cons_append, List.getElem?_cons_zero, List.getElem?_cons_succ, List.set_cons_zero, List.set_cons_succ, Option.bind_some, Option.map_some, Nat.reduceSub, Nat.reduceAdd, Int.toNat_natCast, Bool.not_false, Bool.not_true, okK_none]
        rw [tot_div w3]
        exact q
end PyI

set_option Elab.async false
set_option linter.all false
set_option maxRecDepth 100000
set_option maxHeartbeats 4000000
/-! what may be shown; the grid -/
namespace PyI
open PySem PySem.Spec PyProof.Rows Rw PyData
variable {τ : Type} {O : Pk τ} {W : Nat}
def Sh (z d : Nat) (x : D) : Prop := ∃ p, x.toP = some p ∧ nums p = true ∧ nodes p ≤ z ∧ p.depth ≤ d
def shw (x : D) : Str := (x.toP.getD .none).shown
theorem Sh.mono {z d z' d' : Nat} {x : D} (h : Sh z d x) (h1 : z ≤ z') (h2 : d ≤ d') : Sh z' d' x := by
  obtain ⟨p, a, b, c, e⟩ := h
  exact ⟨p, a, b, by omega, by omega⟩
theorem sh_int {i : Int} {k : Nat} (h : i.natAbs ≤ 2 ^ k) (hk : k ≤ 1900) : Sh 1 0 (.int i) := ⟨.int i, by simp only [D.toP], by
  simp only [nums]
  exact decide_eq_true (by have := logM h; omega), by simp [nodes], by simp [PyData.depth]⟩
theorem sh_bl {b : Bool} : Sh 1 0 (.bl b) := ⟨.bool b, by simp only [D.toP], by simp only [nums], by simp [nodes], by simp [PyData.depth]⟩
theorem sh_list {z d : Nat} : ∀ {xs : List D}, (∀ x ∈ xs, Sh z d x) → ∃ ps, D.toPs xs = some ps ∧ numsAll ps = true ∧ nodesAll ps ≤ xs.length * z ∧ depthAll ps ≤ d
  | [], _ => ⟨[], rfl, rfl, Nat.zero_le _, by simp [depthAll]⟩
  | x :: xs, h => by
    obtain ⟨p, a1, a2, a3, a4⟩ := h x (List.mem_cons_self ..)
    obtain ⟨ps, b1, b2, b3, b4⟩ := sh_list fun y hy => h y (List.mem_cons_of_mem _ hy)
    refine ⟨p :: ps, ?_, ?_, ?_, ?_⟩
    · simp only [D.toPs, a1, b1, Option.bind_some, Option.map_some]
    · simp only [numsAll, a2, b2, Bool.and_self]
    · simp only [nodesAll, List.length_cons, Nat.succ_mul]; omega
    · simp only [depthAll]; omega
theorem sh_tup {z d : Nat} {xs : List D} (h : ∀ x ∈ xs, Sh z d x) : Sh (xs.length * z + 1) (d + 1) (.tup xs) := by
  obtain ⟨ps, b1, b2, b3, b4⟩ := sh_list h
  exact ⟨.tuple ps, by simp only [D.toP, b1, Option.map_some], by simpa [nums] using b2, by simp only [nodes]; omega, by simp only [PyData.depth]; omega⟩
theorem sh_lst {z d : Nat} {xs : List D} (h : ∀ x ∈ xs, Sh z d x) : Sh (xs.length * z + 1) (d + 1) (.lst xs) := by
  obtain ⟨ps, b1, b2, b3, b4⟩ := sh_list h
  exact ⟨.list ps, by simp only [D.toP, b1, Option.map_some], by simpa [nums] using b2, by simp only [nodes]; omega, by simp only [PyData.depth]; omega⟩
theorem repr_s {x : D} {z d : Nat} (h : Sh z d x) (hz : z ≤ 8000) (hd : d ≤ 60) {k : R → Prop} (q : k (.v (.str (shw x)))) : okK (b1D .repr x) k := by
  obtain ⟨p, a, b, c, e⟩ := h
  refine repr_k a b (by omega) (by omega) ?_
  unfold shw at q
  rw [a] at q
  exact q
theorem eq_shw {x : D} {z d : Nat} (h : Sh z d x) {k : Bool → Prop} (q : k true) : okK (eqD (.str (shw x)) (.str (shw x))) k := by
  obtain ⟨p, a, b, c, e⟩ := h
  unfold shw
  rw [a]
  show okK (eqD (.str p.shown) (.str p.shown)) k
  rw [eq_shown b b, okK_some, beq_self_eq_true]
  exact q
theorem sh_Q {x : Rat} {k : Nat} (h : bits k x) (hk : k ≤ 1900) : Sh 3 1 (Qd x) := by
  have := sh_tup (z := 1) (d := 0) (xs := [D.int x.num, .int (x.den : Int)]) fun y hy => by
    simp only [List.mem_cons, List.not_mem_nil, or_false] at hy
    rcases hy with rfl | rfl
    · exact sh_int h.1 hk
    · exact sh_int h.den hk
  exact this
theorem sh_pr {x : Nat × List Int} {c l w : Nat} (h : x.2.length ≤ l ∧ (∀ y ∈ x.2, y.natAbs ≤ 2 ^ c) ∧ x.1 < w) (hc : c ≤ 1900) (hw : w ≤ 2 ^ 60) : Sh (2 * (l + 1) + 1) 2 (pr x) := by
  obtain ⟨h1, h2, h3⟩ := h
  have a := sh_tup (z := 1) (d := 0) (xs := I x.2) fun y hy => by
    obtain ⟨i, hi, rfl⟩ := List.mem_map.mp hy
    exact sh_int (h2 i hi) hc
  have := sh_tup (z := l + 1) (d := 1) (xs := [nD x.1, rD x.2]) fun y hy => by
    simp only [List.mem_cons, List.not_mem_nil, or_false] at hy
    rcases hy with rfl | rfl
    · exact (sh_int (k := 60) (by rw [Int.natAbs_natCast]; omega) (by omega)).mono (by omega) (by omega)
    · exact a.mono (by rw [List.length_map]; omega) (by omega)
  exact this
theorem sh_dD {a : Dn} {c l w : Nat} (h : bnd c l w a) (hc : c ≤ 1900) (hw : w ≤ 2 ^ 60) : Sh (a.length * (2 * (l + 1) + 1) + 1) 3 (dD a) := by
  have := sh_tup (z := 2 * (l + 1) + 1) (d := 2) (xs := a.map pr) fun y hy => by
    obtain ⟨x, hx, rfl⟩ := List.mem_map.mp hy
    exact sh_pr (h x hx) hc hw
  rw [List.length_map] at this
  exact this
/-! == of drawn forms -/
def prP (x : Nat × List Int) : PyData := .tuple [.int ((x.1 : Nat) : Int), .tuple (x.2.map .int)]
theorem toPs_pr : ∀ a : Dn, D.toPs (a.map pr) = some (a.map prP)
  | [] => rfl
  | x :: a => by
    have e : (pr x).toP = some (prP x) := by
      simp only [pr, prP, D.toP, D.toPs, toPs_I, Option.bind_some, Option.map_some]
    simp only [List.map_cons, D.toPs, e, toPs_pr a, Option.bind_some, Option.map_some]
theorem eqv_pr : ∀ a b : Dn, eqvAll (a.map prP) (b.map prP) = decide (a = b)
  | [], [] => by simp [eqvAll]
  | x :: a, [] => by simp [eqvAll]
  | [], y :: b => by simp [eqvAll]
  | x :: a, y :: b => by
    obtain ⟨e, r⟩ := x
    obtain ⟨e', r'⟩ := y
    simp only [List.map_cons, eqvAll, eqv_pr a b, prP, eqv, eqv_I]
    by_cases h1 : e = e' <;> by_cases h2 : r = r' <;> by_cases h3 : a = b <;> simp [h1, h2, h3]
    all_goals first | (intro z; omega) | omega | skip
theorem lay_pr : ∀ a : Dn, canLayAll0 (a.map prP) = true
  | [] => rfl
  | x :: a => by simp only [List.map_cons, canLayAll0, prP, canLay0, canLay_I, lay_pr a, Bool.and_self]
theorem depth_pr : ∀ a : Dn, depthAll (a.map prP) ≤ 2
  | [] => by simp [depthAll]
  | x :: a => by
    have := depth_pr a
    simp only [List.map_cons, depthAll, prP, PyData.depth, depth_I]
    omega
theorem eq_dD (a b : Dn) : eqD (dD a) (dD b) = some (decide (a = b)) := by
  have d1 := depth_pr a
  have d2 := depth_pr b
  have s : ∀ c : Dn, SeqAt.shaped (.tuple (c.map prP)) = true := fun c => by
    have := depth_pr c
    simp only [SeqAt.shaped, canLay0, lay_pr, PyData.depth, Bool.true_and]
    exact decide_eq_true (by omega)
  unfold eqD
  simp only [D.toP, toPs_pr, Option.map_some, s, Bool.and_self, if_true, eqv, eqv_pr]
theorem eq_Q (x y : Rat) : eqD (Qd x) (Qd y) = some (decide (x = y)) := by
  have := eq_tupI [x.num, (x.den : Int)] [y.num, (y.den : Int)]
  have e : decide ([x.num, (x.den : Int)] = [y.num, (y.den : Int)]) = decide (x = y) := by
    rw [decide_eq_decide]
    constructor
    · intro h
      simp only [List.cons.injEq, and_true] at h
      exact Rat.ext h.1 (by omega)
    · intro h; rw [h]
  rw [e] at this
  exact this
/-! the grid -/
end PyI

set_option Elab.async false
set_option linter.all false
set_option maxRecDepth 100000
set_option maxHeartbeats 4000000
/-! through points: plain -/
namespace Rw
def ev : List Rat → Rat → Rat
  | [], _ => 0
  | c :: r, x => c + x * ev r x
def difQ : List Rat → List Rat
  | x :: y :: r => (y - x) :: difQ (y :: r)
  | _ => []
theorem difQ_len : ∀ l : List Rat, (difQ l).length = l.length - 1
  | [] => rfl
  | [_] => rfl
  | x :: y :: r => by rw [difQ, List.length_cons, difQ_len (y :: r)]; simp
theorem difQ_get : ∀ (l : List Rat) (i : Nat), i + 1 < l.length → (difQ l).getD i 0 = l.getD (i + 1) 0 - l.getD i 0
  | [], i, h => by simp at h
  | [x], i, h => by simp at h
  | x :: y :: r, 0, h => by simp [difQ]
  | x :: y :: r, i + 1, h => by
    have := difQ_get (y :: r) i (by simpa using h)
    simpa [difQ] using this
def stQ : Nat → List Rat → List Rat
  | 0, _ => []
  | _ + 1, [] => []
  | n + 1, x :: r => x :: stQ n (difQ (x :: r))
theorem stQ_nil (n : Nat) : stQ n [] = [] := by cases n <;> rfl
theorem stQ_len : ∀ (n : Nat) (l : List Rat), l.length ≤ n → (stQ n l).length = l.length
  | 0, [], _ => rfl
  | 0, x :: r, h => by simp at h
  | n + 1, [], _ => rfl
  | n + 1, x :: r, h => by
    rw [stQ, List.length_cons, stQ_len n _ (by rw [difQ_len]; simpa using h), difQ_len]
    simp
def nw : List Rat → Nat → Nat → Rat
  | [], _, _ => 0
  | c :: r, k, i => c * ((bc i k : Nat) : Rat) + nw r (k + 1) i
theorem nw_z : ∀ (s : List Rat) (k i : Nat), i < k → nw s k i = 0
  | [], _, _, _ => rfl
  | c :: r, k, i, h => by
    rw [nw, nw_z r (k + 1) i (by omega), bc_lt i k h]
    have : ((0 : Nat) : Rat) = 0 := rfl
    rw [this]; grind
theorem natCast_add (a b : Nat) : ((a + b : Nat) : Rat) = (a : Rat) + (b : Rat) := by
  have := Rat.intCast_add (a : Int) (b : Int)
  exact_mod_cast this
theorem nw_up : ∀ (s : List Rat) (k i : Nat), nw s (k + 1) (i + 1) = nw s k i + nw s (k + 1) i
  | [], _, _ => by simp only [nw]; grind
  | c :: r, k, i => by
    simp only [nw, nw_up r (k + 1) i, bc_ss, natCast_add]
    grind
theorem newton : ∀ (i : Nat) (l : List Rat) (n : Nat), i < l.length → l.length ≤ n → nw (stQ n l) 0 i = l.getD i 0
  | 0, [], n, h, _ => by simp at h
  | 0, x :: r, 0, _, h => by simp at h
  | 0, x :: r, n + 1, _, _ => by
    rw [stQ, nw, nw_z _ 1 0 (by omega)]
    show x * ((1 : Nat) : Rat) + 0 = x
    have : ((1 : Nat) : Rat) = 1 := rfl
    rw [this]; grind
  | i + 1, [], n, h, _ => by simp at h
  | i + 1, x :: r, 0, _, h => by simp at h
  | i + 1, x :: r, n + 1, h, hn => by
    have h1 := newton i (x :: r) (n + 1) (by omega) hn
    have h2 := newton i (difQ (x :: r)) n (by rw [difQ_len]; simp at h ⊢; omega) (by rw [difQ_len]; simp at hn ⊢; omega)
    rw [stQ, nw] at h1 ⊢
    rw [nw_up, bc_zero]
    rw [bc_zero] at h1
    rw [difQ_get _ _ h] at h2
    rw [h2]
    grind
/-! powers -/
def lateR (K : Rat) : Rat → List Rat → List Rat
  | u, [] => [u]
  | u, c :: r => (u - K * c) :: lateR K c r
theorem lateR_len (K : Rat) : ∀ (u : Rat) (p : List Rat), (lateR K u p).length = p.length + 1
  | _, [] => rfl
  | u, c :: r => by rw [lateR, List.length_cons, lateR_len K c r]; rfl
theorem ev_late (K x : Rat) : ∀ (u : Rat) (p : List Rat), ev (lateR K u p) x = u + x * ev p x - K * ev p x
  | u, [] => by simp only [lateR, ev]; grind
  | u, c :: r => by simp only [lateR, ev, ev_late K x c r]; grind
theorem ev_scale (s x : Rat) : ∀ p : List Rat, ev (p.map fun c => c * s) x = ev p x * s
  | [] => by simp only [List.map_nil, ev]; grind
  | c :: r => by simp only [List.map_cons, ev, ev_scale s x r]; grind
def kq (k : Nat) : Rat := ((k + 1 : Nat) : Rat)
def uq (k : Nat) : Rat := Rat.divInt 1 ((k + 1 : Nat) : Int)
theorem kq_ne (k : Nat) : kq k ≠ 0 := by
  unfold kq
  intro h
  have : ((k + 1 : Nat) : Int) = 0 := by exact_mod_cast h
  omega
theorem uq_kq (k : Nat) : uq k * kq k = 1 := by
  have := kq_ne k
  unfold uq kq at *
  rw [Rat.divInt_eq_div]
  have h1 : ((1 : Int) : Rat) = 1 := rfl
  have h2 : (((k + 1 : Nat) : Int) : Rat) = ((k + 1 : Nat) : Rat) := rfl
  rw [h1, h2]
  generalize ((k + 1 : Nat) : Rat) = v at *
  grind
def nxq (k : Nat) (p : List Rat) : List Rat := (lateR (kq k) 0 p).map fun c => c * uq k
def pw : Nat → List Rat
  | 0 => [1]
  | k + 1 => nxq k (pw k)
theorem pw_len : ∀ k, (pw k).length = k + 1
  | 0 => rfl
  | k + 1 => by rw [pw, nxq, List.length_map, lateR_len, pw_len k]
theorem pw_ev (i : Nat) : ∀ k, ev (pw k) (kq i) = ((bc i k : Nat) : Rat)
  | 0 => by
    rw [bc_zero]
    show 1 + kq i * 0 = ((1 : Nat) : Rat)
    have : ((1 : Nat) : Rat) = 1 := rfl
    rw [this]; grind
  | k + 1 => by
    rw [pw, nxq, ev_scale, ev_late, pw_ev i k]
    have h1 := b_up i k
    have h2 : (kq k) * ((bc i (k + 1) : Nat) : Rat) = (kq i - kq k) * ((bc i k : Nat) : Rat) := by
      have e1 : kq k = (((k : Int) + 1 : Int) : Rat) := by unfold kq; norm_cast
      have e2 : kq i = (((i : Int) + 1 : Int) : Rat) := by unfold kq; norm_cast
      have e3 : ((bc i (k + 1) : Nat) : Rat) = ((b i (k + 1) : Int) : Rat) := rfl
      have e4 : ((bc i k : Nat) : Rat) = ((b i k : Int) : Rat) := rfl
      rw [e1, e2, e3, e4, ← Rat.intCast_sub, ← Rat.intCast_mul, ← Rat.intCast_mul]
      congr 1
      rw [h1]
      congr 1
      omega
    have h3 := uq_kq k
    generalize ((bc i (k + 1) : Nat) : Rat) = u at *
    generalize ((bc i k : Nat) : Rat) = v at *
    generalize kq k = w at *
    generalize kq i = z at *
    generalize uq k = s at *
    have : (0 + z * v - w * v) * s = ((z - w) * v) * s := by grind
    rw [this, ← h2]
    have : w * u * s = u * (s * w) := by grind
    rw [this, h3]; grind
def addP : List Rat → Rat → List Rat → List Rat
  | [], _, _ => []
  | c :: f, _, [] => c :: f
  | c :: f, s, p :: ps => (c + s * p) :: addP f s ps
theorem addP_len : ∀ (f : List Rat) (s : Rat) (p : List Rat), (addP f s p).length = f.length
  | [], _, _ => rfl
  | c :: f, _, [] => rfl
  | c :: f, s, p :: ps => by rw [addP, List.length_cons, List.length_cons, addP_len f s ps]
theorem addP_ev (s x : Rat) : ∀ (f p : List Rat), p.length ≤ f.length → ev (addP f s p) x = ev f x + s * ev p x
  | [], [], _ => by simp only [addP, ev]; grind
  | [], _ :: _, h => by simp at h
  | c :: f, [], _ => by simp only [addP, ev]; grind
  | c :: f, p :: ps, h => by simp only [addP, ev, addP_ev s x f ps (by simpa using h)]; grind
def fnd : List Rat → Nat → List Rat → List Rat
  | f, _, [] => f
  | f, k, s :: r => fnd (addP f s (pw k)) (k + 1) r
theorem fnd_len : ∀ (ss f : List Rat) (k : Nat), (fnd f k ss).length = f.length
  | [], _, _ => rfl
  | s :: r, f, k => by rw [fnd, fnd_len r, addP_len]
theorem fnd_ev (i : Nat) : ∀ (ss f : List Rat) (k : Nat), k + ss.length ≤ f.length → ev (fnd f k ss) (kq i) = ev f (kq i) + nw ss k i
  | [], f, k, _ => by simp only [fnd, nw]; grind
  | s :: r, f, k, h => by
    rw [fnd, fnd_ev i r _ (k + 1) (by rw [addP_len]; simp at h; omega), addP_ev _ _ _ _ (by rw [pw_len]; simp at h; omega), pw_ev, nw]
    grind
def pt (l : List Rat) : List Rat := fnd (List.replicate l.length 0) 0 (stQ l.length l)
theorem pt_len (l : List Rat) : (pt l).length = l.length := by rw [pt, fnd_len, List.length_replicate]
theorem ev_zero (x : Rat) : ∀ n, ev (List.replicate n 0) x = 0
  | 0 => rfl
  | n + 1 => by rw [List.replicate_succ, ev, ev_zero x n]; grind
theorem pt_ev {l : List Rat} {i : Nat} (h : i < l.length) : ev (pt l) (kq i) = l.getD i 0 := by
  rw [pt, fnd_ev i _ _ _ (by rw [stQ_len _ _ (Nat.le_refl _), List.length_replicate]; omega), ev_zero, newton i l _ h (Nat.le_refl _)]
  grind
/-! just one -/
def qt (r : Rat) : List Rat → List Rat
  | [] => []
  | c :: cs => ev (c :: cs) r :: qt r cs
theorem qt_len (r : Rat) : ∀ l, (qt r l).length = l.length
  | [] => rfl
  | c :: cs => by rw [qt, List.length_cons, List.length_cons, qt_len r cs]
theorem qt_ev (r x : Rat) : ∀ (cs : List Rat) (c : Rat), ev (c :: cs) x = (x - r) * ev (qt r cs) x + ev (c :: cs) r
  | [], c => by simp only [qt, ev]; grind
  | d :: cs, c => by
    have ih := qt_ev r x cs d
    have e1 : ev (c :: d :: cs) x = c + x * ev (d :: cs) x := rfl
    have e2 : ev (c :: d :: cs) r = c + r * ev (d :: cs) r := rfl
    have e3 : ev (qt r (d :: cs)) x = ev (d :: cs) r + x * ev (qt r cs) x := rfl
    rw [e1, e2, e3, ih]
    grind
theorem qt_zero (r : Rat) : ∀ (cs : List Rat) (c : Rat), (∀ x ∈ qt r cs, x = 0) → ev (c :: cs) r = 0 → ∀ x ∈ c :: cs, x = 0
  | [], c, _, h => fun x hx => by
    rw [List.mem_singleton] at hx
    simp only [ev] at h
    rw [hx]; grind
  | d :: cs, c, hq, h => fun x hx => by
    have h1 := hq _ (List.mem_cons_self ..)
    have ih := qt_zero r cs d (fun y hy => hq y (List.mem_cons_of_mem _ hy)) h1
    rw [ev, h1] at h
    rcases List.mem_cons.mp hx with rfl | hx
    · grind
    · exact ih x hx
theorem roots : ∀ (rs l : List Rat), rs.Nodup → l.length ≤ rs.length → (∀ r ∈ rs, ev l r = 0) → ∀ x ∈ l, x = 0
  | _, [], _, _, _ => fun _ h => nomatch h
  | [], c :: cs, _, h, _ => by simp at h
  | r :: rs, c :: cs, hn, hl, h => by
    have hr := h r (List.mem_cons_self ..)
    have hn' := List.nodup_cons.mp hn
    refine qt_zero r cs c (roots rs (qt r cs) hn'.2 (by rw [qt_len]; simpa using hl) fun s hs => ?_) hr
    have h1 := h s (List.mem_cons_of_mem _ hs)
    rw [qt_ev r s cs c, hr] at h1
    have ne : s ≠ r := fun z => hn'.1 (z ▸ hs)
    have : s - r ≠ 0 := by grind
    generalize ev (qt r cs) s = u at *
    grind
theorem kq_inj {i j : Nat} (h : kq i = kq j) : i = j := by
  unfold kq at h
  have : (((i + 1 : Nat) : Int)) = ((j + 1 : Nat) : Int) := by exact_mod_cast h
  omega
theorem ev_sub (x : Rat) : ∀ c d : List Rat, c.length = d.length → ev (List.zipWith (fun a b => a - b) c d) x = ev c x - ev d x
  | [], [], _ => by simp only [List.zipWith_nil_left, ev]; grind
  | [], _ :: _, h => by simp at h
  | _ :: _, [], h => by simp at h
  | a :: c, b :: d, h => by simp only [List.zipWith_cons_cons, ev, ev_sub x c d (by simpa using h)]; grind
theorem zip_eq : ∀ c d : List Rat, c.length = d.length → (∀ x ∈ List.zipWith (fun a b => a - b) c d, x = 0) → c = d
  | [], [], _, _ => rfl
  | [], _ :: _, h, _ => by simp at h
  | _ :: _, [], h, _ => by simp at h
  | a :: c, b :: d, h, hz => by
    have h1 := hz (a - b) (by simp)
    have h2 := zip_eq c d (by simpa using h) fun x hx => hz x (by rw [List.zipWith_cons_cons]; exact List.mem_cons_of_mem _ hx)
    rw [h2]
    congr 1
    grind
theorem poly_uniq {c d : List Rat} {m : Nat} (hc : c.length = m) (hd : d.length = m) (h : ∀ i, i < m → ev c (kq i) = ev d (kq i)) : c = d := by
  refine zip_eq c d (by omega) (roots ((List.range m).map kq) _ ?_ ?_ fun r hr => ?_)
  · rw [List.nodup_iff_pairwise_ne, List.pairwise_map]
    exact (List.nodup_iff_pairwise_ne.mp List.nodup_range).imp fun z w => z (kq_inj w)
  · simp [hc, hd]
  · obtain ⟨i, hi, rfl⟩ := List.mem_map.mp hr
    rw [ev_sub _ _ _ (by omega), h i (List.mem_range.mp hi)]
    grind
theorem pt_uniq {l c : List Rat} (hc : c.length = l.length) (h : ∀ i, i < l.length → ev c (kq i) = l.getD i 0) : pt l = c :=
  poly_uniq (pt_len l) hc fun i hi => by rw [pt_ev hi, h i hi]
end Rw

set_option Elab.async false
set_option linter.all false
set_option maxRecDepth 100000
set_option maxHeartbeats 8000000
/-! steps, powers through -/
namespace PyI
open PySem PySem.Spec PyProof.Rows Rw PyData
variable {τ : Type} {O : Pk τ} {W : Nat}
def bt (D k : Nat) (x : Rat) : Prop := ∃ p : Int, x = Rat.divInt p (D : Int) ∧ p.natAbs ≤ 2 ^ k
theorem dcast_ne {D : Nat} (h : D ≠ 0) : ((D : Int) : Rat) ≠ 0 := by
  intro z
  have : (D : Int) = 0 := by exact_mod_cast z
  omega
theorem bt_bits {D k : Nat} {x : Rat} (hD : D ≠ 0) (hk : D ≤ 2 ^ k) (h : bt D k x) : bits k x := by
  obtain ⟨p, rfl, hp⟩ := h
  exact bits_div (by omega) hp (by rw [Int.natAbs_natCast]; exact hk)
theorem bt.mono {D k k' : Nat} {x : Rat} (h : bt D k x) (l : k ≤ k') : bt D k' x := by
  obtain ⟨p, e, hp⟩ := h
  exact ⟨p, e, Nat.le_trans hp (pow_le2 l)⟩
theorem bt_add {D k : Nat} {x y : Rat} (h : bt D k x) (h' : bt D k y) : bt D (k + 1) (x + y) := by
  obtain ⟨p, rfl, hp⟩ := h
  obtain ⟨q, rfl, hq⟩ := h'
  refine ⟨p + q, ?_, add_le2 hp hq⟩
  rw [Rat.divInt_eq_div, Rat.divInt_eq_div, Rat.divInt_eq_div, Rat.intCast_add]
  grind
theorem bt_sub {D k : Nat} {x y : Rat} (h : bt D k x) (h' : bt D k y) : bt D (k + 1) (x - y) := by
  obtain ⟨p, rfl, hp⟩ := h
  obtain ⟨q, rfl, hq⟩ := h'
  refine ⟨p - q, ?_, sub_le2 hp hq⟩
  rw [Rat.divInt_eq_div, Rat.divInt_eq_div, Rat.divInt_eq_div, Rat.intCast_sub]
  grind
theorem bt_mul {D E k m : Nat} {x y : Rat} (hD : D ≠ 0) (hE : E ≠ 0) (h : bt D k x) (h' : bt E m y) : bt (D * E) (k + m) (x * y) := by
  obtain ⟨p, rfl, hp⟩ := h
  obtain ⟨q, rfl, hq⟩ := h'
  refine ⟨p * q, ?_, mul_le2 hp hq⟩
  have d1 := dcast_ne hD
  have d2 := dcast_ne hE
  rw [Rat.divInt_eq_div, Rat.divInt_eq_div, Rat.divInt_eq_div, Rat.intCast_mul, Int.natCast_mul, Rat.intCast_mul]
  grind
theorem bt_zero {D k : Nat} : bt D k 0 := ⟨0, by rw [Rat.divInt_eq_div]; have : ((0 : Int) : Rat) = 0 := rfl; rw [this]; grind, Nat.zero_le _⟩
theorem bt_int {k : Nat} {z : Int} (h : z.natAbs ≤ 2 ^ k) : bt 2 (k + 1) (z : Rat) := by
  refine ⟨z * 2, ?_, by rw [Int.natAbs_mul, Nat.pow_succ]; exact Nat.mul_le_mul_right _ h⟩
  rw [Rat.divInt_eq_div, Rat.intCast_mul]
  have h2 : ((2 : Int) : Rat) = 2 := rfl
  have h3 : (((2 : Nat) : Int) : Rat) = 2 := rfl
  rw [h2, h3]
  grind
theorem difQ_bt {D : Nat} : ∀ {k : Nat} {l : List Rat}, (∀ x ∈ l, bt D k x) → ∀ x ∈ difQ l, bt D (k + 1) x
  | _, [], _, x, h => nomatch h
  | _, [_], _, x, h => nomatch h
  | k, a :: b :: r, hl, x, h => by
    rw [difQ] at h
    rcases List.mem_cons.mp h with rfl | h
    · exact bt_sub (hl b (by simp)) (hl a (by simp))
    · exact difQ_bt (fun y hy => hl y (List.mem_cons_of_mem _ hy)) x h
theorem stQ_bt {D : Nat} : ∀ (n : Nat) {k : Nat} {l : List Rat}, (∀ x ∈ l, bt D k x) → ∀ x ∈ stQ n l, bt D (k + n) x
  | 0, k, l, _, x, h => nomatch h
  | n + 1, k, [], _, x, h => nomatch h
  | n + 1, k, a :: r, hl, x, h => by
    rw [stQ] at h
    rcases List.mem_cons.mp h with rfl | h
    · exact (hl x (List.mem_cons_self ..)).mono (by omega)
    · exact (stQ_bt n (difQ_bt hl) x h).mono (by omega)
def bt' (D k : Nat) (x : Rat) : Bool := decide ((x * (D : Int)).den = 1) && decide ((x * (D : Int)).num.natAbs ≤ 2 ^ k)
theorem bt_of {D k : Nat} {x : Rat} (hD : D ≠ 0) (h : bt' D k x = true) : bt D k x := by
  unfold bt' at h
  rw [Bool.and_eq_true, decide_eq_true_eq, decide_eq_true_eq] at h
  refine ⟨_, ?_, h.2⟩
  have d1 := dcast_ne hD
  rw [Rat.divInt_eq_div]
  have e := rat_nd (x * ((D : Int) : Rat))
  rw [h.1] at e
  have h1 : (((1 : Nat) : Int) : Rat) = 1 := rfl
  rw [h1] at e
  have e2 : (((x * ((D : Int) : Rat)).num : Int) : Rat) = x * ((D : Int) : Rat) := by grind
  rw [e2]
  grind
theorem pw_bt : ∀ k, k < 7 → ∀ x ∈ pw k, bt 720 20 x := by
  have h : ∀ k, k < 7 → (pw k).all (bt' 720 20) = true := by decide +kernel
  intro k hk x hx
  exact bt_of (by omega) (List.all_eq_true.mp (h k hk) x hx)
theorem addP_bt {j a : Nat} {s : Rat} (hs : bt 2 a s) (ha : a + 20 ≤ j) : ∀ {f p : List Rat}, (∀ x ∈ f, bt 1440 j x) → (∀ x ∈ p, bt 720 20 x) → ∀ x ∈ addP f s p, bt 1440 (j + 1) x
  | [], _, _, _, x, h => nomatch h
  | c :: f, [], hf, _, x, h => (hf x h).mono (by omega)
  | c :: f, p :: ps, hf, hp, x, h => by
    rw [addP] at h
    rcases List.mem_cons.mp h with rfl | h
    · exact bt_add (hf c (List.mem_cons_self ..)) ((bt_mul (D := 2) (E := 720) (by omega) (by omega) hs (hp p (List.mem_cons_self ..))).mono ha)
    · exact addP_bt hs ha (fun y hy => hf y (List.mem_cons_of_mem _ hy)) (fun y hy => hp y (List.mem_cons_of_mem _ hy)) x h
theorem fnd_bt : ∀ (ss : List Rat) {f : List Rat} {k j a : Nat}, (∀ x ∈ f, bt 1440 j x) → (∀ s ∈ ss, bt 2 a s) → a + 20 ≤ j → k + ss.length ≤ 7 → ∀ x ∈ fnd f k ss, bt 1440 (j + ss.length) x
  | [], f, k, j, a, hf, _, _, _, x, h => hf x h
  | s :: r, f, k, j, a, hf, hs, ha, hk, x, h => by
    rw [fnd] at h
    rw [List.length_cons] at hk ⊢
    have := fnd_bt r (j := j + 1) (a := a) (addP_bt (hs s (List.mem_cons_self ..)) ha hf (pw_bt k (by omega))) (fun t ht => hs t (List.mem_cons_of_mem _ ht)) (by omega) (by omega) x h
    exact this.mono (by omega)
theorem pt_bt {l : List Rat} {k : Nat} (h : ∀ x ∈ l, bt 2 k x) (hl : l.length ≤ 6) : ∀ x ∈ pt l, bt 1440 (k + 40) x := fun x hx => by
  have s := stQ_bt l.length h
  have := fnd_bt (stQ l.length l) (f := List.replicate l.length 0) (k := 0) (j := k + 26) (a := k + l.length) (fun y hy => by rw [List.eq_of_mem_replicate hy]; exact bt_zero) s (by omega) (by rw [stQ_len _ _ (Nat.le_refl _)]; omega) x hx
  rw [stQ_len _ _ (Nat.le_refl _)] at this
  exact this.mono (by omega)
theorem fnd_snoc : ∀ (ss f : List Rat) (k : Nat) (s : Rat), fnd f k (ss ++ [s]) = addP (fnd f k ss) s (pw (k + ss.length))
  | [], f, k, s => rfl
  | t :: ss, f, k, s => by
    rw [List.cons_append, fnd, fnd, fnd_snoc ss _ (k + 1) s, List.length_cons]
    congr 2
    omega
/-! == of lists of fractions -/
def QP (x : Rat) : PyData := .tuple [.int x.num, .int (x.den : Int)]
theorem toPs_Q : ∀ a : List Rat, D.toPs (a.map Qd) = some (a.map QP)
  | [] => rfl
  | x :: a => by
    have e : (Qd x).toP = some (QP x) := by simp only [QP, D.toP, D.toPs, Option.bind_some, Option.map_some]
    simp only [List.map_cons, D.toPs, e, toPs_Q a, Option.bind_some, Option.map_some]
theorem eqv_Q : ∀ a b : List Rat, eqvAll (a.map QP) (b.map QP) = decide (a = b)
  | [], [] => by simp [eqvAll]
  | x :: a, [] => by simp [eqvAll]
  | [], y :: b => by simp [eqvAll]
  | x :: a, y :: b => by
    simp only [List.map_cons, eqvAll, eqv_Q a b, QP, eqv]
    by_cases h1 : x = y
    · subst h1; by_cases h3 : a = b <;> simp [h3]
    · have : ¬ (x.num = y.num ∧ x.den = y.den) := fun z => h1 (Rat.ext z.1 z.2)
      by_cases h2 : x.num = y.num
      · have h3 : ¬ x.den = y.den := fun z => this ⟨h2, z⟩
        have h4 : ¬ ((x.den : Int) = (y.den : Int)) := by omega
        simp [h1, h2, h4]
        try exact fun z => absurd z h3
      · simp [h1, h2]
theorem lay_Q : ∀ a : List Rat, canLayAll0 (a.map QP) = true
  | [] => rfl
  | x :: a => by simp only [List.map_cons, canLayAll0, QP, canLay0, lay_Q a, Bool.and_self]
theorem depth_Q : ∀ a : List Rat, depthAll (a.map QP) ≤ 1
  | [] => by simp [depthAll]
  | x :: a => by
    have := depth_Q a
    simp only [List.map_cons, depthAll, QP, PyData.depth]
    omega
theorem eq_Ql (a b : List Rat) : eqD (.lst (a.map Qd)) (.lst (b.map Qd)) = some (decide (a = b)) := by
  have s : ∀ c : List Rat, SeqAt.shaped (.list (c.map QP)) = true := fun c => by
    have := depth_Q c
    simp only [SeqAt.shaped, canLay0, lay_Q, PyData.depth, Bool.true_and]
    exact decide_eq_true (by omega)
  unfold eqD
  simp only [D.toP, toPs_Q, Option.map_some, s, Bool.and_self, if_true, eqv, eqv_Q]
theorem eq_Ql_nil (a : List Rat) : eqD (.lst (a.map Qd)) (.lst []) = some (decide (a = [])) := eq_Ql a []
/-! steps -/
def qd : D → Rat
  | .tup [.int a, .int b] => Rat.divInt a b
  | _ => 0
theorem qd_Q (x : Rat) : qd (Qd x) = x := Rat.num_divInt_den x
def gS2 (f : Rat → Rat → Rat) : D → D := fun d => match d with
  | .tup [a, b] => Qd (f (qd a) (qd b))
  | _ => .non
theorem dif_map : ∀ l : List Rat, (pairs (l.map Qd) ((l.map Qd).drop 1)).map (gS2 fun a b => b - a) = (difQ l).map Qd
  | [] => rfl
  | [x] => rfl
  | x :: y :: r => by
    have ih := dif_map (y :: r)
    simp only [List.map_cons, List.drop_succ_cons, List.drop_zero, pairs, difQ] at ih ⊢
    rw [ih]
    simp only [gS2, qd_Q]
theorem pairsQ_mem : ∀ (l m : List Rat), ∀ d ∈ pairs (l.map Qd) (m.map Qd), ∃ x y : Rat, d = .tup [Qd x, Qd y] ∧ x ∈ l ∧ y ∈ m
  | [], m, d, h => nomatch h
  | x :: l, [], d, h => nomatch h
  | x :: l, y :: m, d, h => by
    rcases List.mem_cons.mp h with rfl | h
    · exact ⟨x, y, rfl, List.mem_cons_self .., List.mem_cons_self ..⟩
    · obtain ⟨a, b, e, h1, h2⟩ := pairsQ_mem l m d h
      exact ⟨a, b, e, List.mem_cons_of_mem _ h1, List.mem_cons_of_mem _ h2⟩
theorem s_steps (n : Nat) {z : D} {l : List Rat} {D k : Nat} {t : τ} (hz : z = .lst (l.map Qd) ∨ z = .tup (l.map Qd)) (hb : ∀ x ∈ l, bt D k x) (hD : D ≠ 0) (hDk : D ≤ 2 ^ k) (hl : l.length ≤ 10) (hk : k ≤ 3900) (hW : 1000 < W) {Q : R → τ → Prop} (q : Q (.o (.lst ((stQ l.length l).map Qd))) t) :
    K2 (run O W prog (n + 3) i_steps_of [z] t) Q := by
  refine run_ (fn := f_steps_of) rfl rfl ?_
  unfold f_steps_of b_steps_of
  rw [x_seq]
  have b1l : ∀ {k : R → Prop}, okK (b1D .list z) k ↔ k (.o (.lst (l.map Qd))) := fun {k} => by
    rcases hz with rfl | rfl
    · rw [b1_lst_l, okK_some]
    · rw [b1_lst_t, okK_some]
  simp only [e_var, v_v, v_o, e_non, e_bl, e_int, e_str, e_nil, e_dnil, e_cons, con_, e_tup, ls_, e_lst, e_bin, e_neg, int_, e_nt, e_and, e_or, e_ife, e_cmp, e_isc, e_call, e_pick, pick_, e_b1, e_b2, e_isin, e_ix, e_slc, e_rng1, e_rng2, e_enm, e_zp, zp_l, zp_t, e_comp, turn_, oc_s, oc_n, cmp_nil, cmp_cons, x_asg, x_par, x_sto, sto_, x_app, app_, x_ext, ext_, x_ex, x_pop, pop_, x_popj, x_ret, ret_v, ret_o, ret_k, x_ifs, x_brk, x_cnt, x_pas, sq_b, sq_c, sq_r, x_seq, forB_, x_fr, whlC_, x_whl, okK_some, okK_ite, okK_map, okK_bind, trK_t, trK_f, trK_map, K2_some, K3_some, frz, bindT, wipe, R.d_v, R.d_o, R.d_k, R.st_v, R.st_o, R.st_k, binD, cmpD, truth, isinD, ix_d, ix_l, ix_t, get_d, e_get, e_rev, e_scons, x_par3, aI0, aI1, b1_len_d, b1_int, b1_intb, b1_sorted_d, partD, slcD, b1_len_l, b1_len_t, b1_len_s, b1_abs, b1_all, b1_any, b1_sum, b1_tup_l, b1_tup_t, b1_lst_l, b1_lst_t, b1_max, b1_min, b1_sorted, b2D, iscD, items, begin_, List.map_cons, List.map_nil, List.replicate_succ, List.replicate_zero, List.nil_append, List.cons_append, List.getElem?_cons_zero, List.getElem?_cons_succ, List.set_cons_zero, List.set_cons_succ, Option.bind_some, Option.map_some, Nat.reduceSub, Nat.reduceAdd, Int.toNat_natCast, Bool.not_false, Bool.not_true, okK_none, b1l, List.length_nil]
  refine ⟨Nat.zero_le _, ?_⟩
  rw [sq_n, x_seq]
  simp only [x_whl, frz]
  refine whl_inv (fun m ρ t' => t' = t ∧ ∃ (l' f : List Rat) (y3 y4 : Option R), l'.length = m ∧ f.length + m ≤ l.length ∧ f ++ stQ l'.length l' = stQ l.length l ∧ (∀ x ∈ l', bt D (k + f.length) x) ∧ ρ = [some (.v z), some (.o (.lst (f.map Qd))), some (.o (.lst (l'.map Qd))), y3, y4]) W l.length _ _ (by omega) ⟨rfl, l, [], none, none, rfl, by simp, rfl, hb, rfl⟩ ?_
  rintro m ρ t' ⟨rfl, l', f, y3, y4, rfl, hf, he, hb', rfl⟩
  simp only [e_var, v_v, v_o, e_non, e_bl, e_int, e_str, e_nil, e_dnil, e_cons, con_, e_tup, ls_, e_lst, e_bin, e_neg, int_, e_nt, e_and, e_or, e_ife, e_cmp, e_isc, e_call, e_pick, pick_, e_b1, e_b2, e_isin, e_ix, e_slc, e_rng1, e_rng2, e_enm, e_zp, zp_l, zp_t, e_comp, turn_, oc_s, oc_n, cmp_nil, x_asg, x_par, x_sto, sto_, x_app, app_, x_ext, ext_, x_ex, x_pop, pop_, x_popj, x_ret, ret_v, ret_o, ret_k, x_ifs, x_brk, x_cnt, x_pas, sq_b, sq_c, sq_r, x_seq, forB_, x_fr, whlC_, x_whl, okK_some, okK_ite, okK_map, okK_bind, trK_t, trK_f, trK_map, K2_some, K3_some, frz, bindT, wipe, R.d_v, R.d_o, R.d_k, R.st_v, R.st_o, R.st_k, binD, cmpD, truth, isinD, ix_d, ix_l, ix_t, get_d, e_get, e_rev, e_scons, x_par3, aI0, aI1, b1_len_d, b1_int, b1_intb, b1_sorted_d, partD, slcD, b1_len_l, b1_len_t, b1_len_s, b1_abs, b1_all, b1_any, b1_sum, b1_tup_l, b1_tup_t, b1_lst_l, b1_lst_t, b1_max, b1_min, b1_sorted, b2D, iscD, items, begin_, List.map_cons, List.map_nil, List.replicate_succ, List.replicate_zero, List.nil_append, List.cons_append, List.getElem?_cons_zero, List.getElem?_cons_succ, List.set_cons_zero, List.set_cons_succ, Option.bind_some, Option.map_some, Nat.reduceSub, Nat.reduceAdd, Int.toNat_natCast, Bool.not_false, Bool.not_true, okK_none, eq_Ql_nil, List.length_nil]
  refine ⟨Nat.zero_le _, ?_⟩
  cases l' with
  | nil =>
    refine ⟨(fun z => by simp at z), fun _ => ?_⟩
    rw [sq_n]
    simp only [e_var, v_v, v_o, e_non, e_bl, e_int, e_str, e_nil, e_dnil, e_cons, con_, e_tup, ls_, e_lst, e_bin, e_neg, int_, e_nt, e_and, e_or, e_ife, e_cmp, e_isc, e_call, e_pick, pick_, e_b1, e_b2, e_isin, e_ix, e_slc, e_rng1, e_rng2, e_enm, e_zp, zp_l, zp_t, e_comp, turn_, oc_s, oc_n, cmp_nil, x_asg, x_par, x_sto, sto_, x_app, app_, x_ext, ext_, x_ex, x_pop, pop_, x_popj, x_ret, ret_v, ret_o, ret_k, x_ifs, x_brk, x_cnt, x_pas, sq_b, sq_c, sq_r, x_seq, forB_, x_fr, whlC_, x_whl, okK_some, okK_ite, okK_map, okK_bind, trK_t, trK_f, trK_map, K2_some, K3_some, frz, bindT, wipe, R.d_v, R.d_o, R.d_k, R.st_v, R.st_o, R.st_k, binD, cmpD, truth, isinD, ix_d, ix_l, ix_t, get_d, e_get, e_rev, e_scons, x_par3, aI0, aI1, b1_len_d, b1_int, b1_intb, b1_sorted_d, partD, slcD, b1_len_l, b1_len_t, b1_len_s, b1_abs, b1_all, b1_any, b1_sum, b1_tup_l, b1_tup_t, b1_lst_l, b1_lst_t, b1_max, b1_min, b1_sorted, b2D, iscD, items, begin_, List.map_cons, List.map_nil, List.replicate_succ, List.replicate_zero, List.nil_append, List.cons_append, List.getElem?_cons_zero, List.getElem?_cons_succ, List.set_cons_zero, List.set_cons_succ, Option.bind_some, Option.map_some, Nat.reduceSub, Nat.reduceAdd, Int.toNat_natCast, Bool.not_false, Bool.not_true, okK_none]
    rw [show f = stQ l.length l by rw [← he]; simp [stQ]]
    exact q
  | cons x r =>
    refine ⟨fun _ => ?_, (fun z => by simp at z)⟩
    simp only [List.map_cons, e_var, v_v, v_o, e_non, e_bl, e_int, e_str, e_nil, e_dnil, e_cons, con_, e_tup, ls_, e_lst, e_bin, e_neg, int_, e_nt, e_and, e_or, e_ife, e_cmp, e_isc, e_call, e_pick, pick_, e_b1, e_b2, e_isin, e_ix, e_slc, e_rng1, e_rng2, e_enm, e_zp, zp_l, zp_t, e_comp, turn_, oc_s, oc_n, cmp_nil, x_asg, x_par, x_sto, sto_, x_app, app_, x_ext, ext_, x_ex, x_pop, pop_, x_popj, x_ret, ret_v, ret_o, ret_k, x_ifs, x_brk, x_cnt, x_pas, sq_b, sq_c, sq_r, x_seq, forB_, x_fr, whlC_, x_whl, okK_some, okK_ite, okK_map, okK_bind, trK_t, trK_f, trK_map, K2_some, K3_some, frz, bindT, wipe, R.d_v, R.d_o, R.d_k, R.st_v, R.st_o, R.st_k, binD, cmpD, truth, isinD, ix_d, ix_l, ix_t, get_d, e_get, e_rev, e_scons, x_par3, aI0, aI1, b1_len_d, b1_int, b1_intb, b1_sorted_d, partD, slcD, b1_len_l, b1_len_t, b1_len_s, b1_abs, b1_all, b1_any, b1_sum, b1_tup_l, b1_tup_t, b1_lst_l, b1_lst_t, b1_max, b1_min, b1_sorted, b2D, iscD, items, begin_, List.map_cons, List.map_nil, List.replicate_succ, List.replicate_zero, List.nil_append, List.cons_append, List.getElem?_cons_zero, List.getElem?_cons_succ, List.set_cons_zero, List.set_cons_succ, Option.bind_some, Option.map_some, Nat.reduceSub, Nat.reduceAdd, Int.toNat_natCast, Bool.not_false, Bool.not_true, okK_none]
    simp only [List.length_cons] at hf
    refine ⟨by rw [List.length_map, sizeLine_eq]; omega, ?_⟩
    rw [sq_n]
    simp only [e_var, v_v, v_o, e_non, e_bl, e_int, e_str, e_nil, e_dnil, e_cons, con_, e_tup, ls_, e_lst, e_bin, e_neg, int_, e_nt, e_and, e_or, e_ife, e_cmp, e_isc, e_call, e_pick, pick_, e_b1, e_b2, e_isin, e_ix, e_slc, e_rng1, e_rng2, e_enm, e_zp, zp_l, zp_t, e_comp, turn_, oc_s, oc_n, cmp_nil, x_asg, x_par, x_sto, sto_, x_app, app_, x_ext, ext_, x_ex, x_pop, pop_, x_popj, x_ret, ret_v, ret_o, ret_k, x_ifs, x_brk, x_cnt, x_pas, sq_b, sq_c, sq_r, x_seq, forB_, x_fr, whlC_, x_whl, okK_some, okK_ite, okK_map, okK_bind, trK_t, trK_f, trK_map, K2_some, K3_some, frz, bindT, wipe, R.d_v, R.d_o, R.d_k, R.st_v, R.st_o, R.st_k, binD, cmpD, truth, isinD, ix_d, ix_l, ix_t, get_d, e_get, e_rev, e_scons, x_par3, aI0, aI1, b1_len_d, b1_int, b1_intb, b1_sorted_d, partD, slcD, b1_len_l, b1_len_t, b1_len_s, b1_abs, b1_all, b1_any, b1_sum, b1_tup_l, b1_tup_t, b1_lst_l, b1_lst_t, b1_max, b1_min, b1_sorted, b2D, iscD, items, begin_, List.map_cons, List.map_nil, List.replicate_succ, List.replicate_zero, List.nil_append, List.cons_append, List.getElem?_cons_zero, List.getElem?_cons_succ, List.set_cons_zero, List.set_cons_succ, Option.bind_some, Option.map_some, Nat.reduceSub, Nat.reduceAdd, Int.toNat_natCast, Bool.not_false, Bool.not_true, okK_none]
    rw [show (1 : Int) = ((1 : Nat) : Int) from rfl, cut_from]
    refine ⟨?_, ?_⟩
    · rw [pairs_len, sizeLine_eq]
      simp
      omega
    refine cmp_map (gS2 fun a b => b - a) _ _ (fun d hd => ?_) ?_
    · obtain ⟨u, v, rfl, hu, hv⟩ := pairsQ_mem (x :: r) r d hd
      simp only [e_var, v_v, v_o, e_non, e_bl, e_int, e_str, e_nil, e_dnil, e_cons, con_, e_tup, ls_, e_lst, e_bin, e_neg, int_, e_nt, e_and, e_or, e_ife, e_cmp, e_isc, e_call, e_pick, pick_, e_b1, e_b2, e_isin, e_ix, e_slc, e_rng1, e_rng2, e_enm, e_zp, zp_l, zp_t, e_comp, turn_, oc_s, oc_n, cmp_nil, cmp_cons, x_asg, x_par, x_sto, sto_, x_app, app_, x_ext, ext_, x_ex, x_pop, pop_, x_popj, x_ret, ret_v, ret_o, ret_k, x_ifs, x_brk, x_cnt, x_pas, sq_n, sq_b, sq_c, sq_r, x_seq, forB_, x_fr, whlC_, x_whl, okK_some, okK_ite, okK_map, okK_bind, trK_t, trK_f, trK_map, K2_some, K3_some, frz, bindT, wipe, R.d_v, R.d_o, R.d_k, R.st_v, R.st_o, R.st_k, binD, cmpD, truth, isinD, ix_d, ix_l, ix_t, get_d, e_get, e_rev, e_scons, x_par3, aI0, aI1, b1_len_d, b1_int, b1_intb, b1_sorted_d, partD, slcD, b1_len_l, b1_len_t, b1_len_s, b1_abs, b1_all, b1_any, b1_sum, b1_tup_l, b1_tup_t, b1_lst_l, b1_lst_t, b1_max, b1_min, b1_sorted, b2D, iscD, items, begin_, List.map_cons, List.map_nil, List.replicate_succ, List.replicate_zero, List.nil_append, List.cons_append, List.getElem?_cons_zero, List.getElem?_cons_succ, List.set_cons_zero, List.set_cons_succ, Option.bind_some, Option.map_some, Nat.reduceSub, Nat.reduceAdd, Int.toNat_natCast, Bool.not_false, Bool.not_true, okK_none]
      have bu := bt_bits (k := k + f.length) hD (Nat.le_trans hDk (pow_le2 (by omega))) (hb' u hu)
      have bv := bt_bits (k := k + f.length) hD (Nat.le_trans hDk (pow_le2 (by omega))) (hb' v (List.mem_cons_of_mem _ hv))
      refine s_fless n bv bu (by omega) ?_
      simp only [e_var, v_v, v_o, e_non, e_bl, e_int, e_str, e_nil, e_dnil, e_cons, con_, e_tup, ls_, e_lst, e_bin, e_neg, int_, e_nt, e_and, e_or, e_ife, e_cmp, e_isc, e_call, e_pick, pick_, e_b1, e_b2, e_isin, e_ix, e_slc, e_rng1, e_rng2, e_enm, e_zp, zp_l, zp_t, e_comp, turn_, oc_s, oc_n, cmp_nil, cmp_cons, x_asg, x_par, x_sto, sto_, x_app, app_, x_ext, ext_, x_ex, x_pop, pop_, x_popj, x_ret, ret_v, ret_o, ret_k, x_ifs, x_brk, x_cnt, x_pas, sq_n, sq_b, sq_c, sq_r, x_seq, forB_, x_fr, whlC_, x_whl, okK_some, okK_ite, okK_map, okK_bind, trK_t, trK_f, trK_map, K2_some, K3_some, frz, bindT, wipe, R.d_v, R.d_o, R.d_k, R.st_v, R.st_o, R.st_k, binD, cmpD, truth, isinD, ix_d, ix_l, ix_t, get_d, e_get, e_rev, e_scons, x_par3, aI0, aI1, b1_len_d, b1_int, b1_intb, b1_sorted_d, partD, slcD, b1_len_l, b1_len_t, b1_len_s, b1_abs, b1_all, b1_any, b1_sum, b1_tup_l, b1_tup_t, b1_lst_l, b1_lst_t, b1_max, b1_min, b1_sorted, b2D, iscD, items, begin_, List.map_cons, List.map_nil, List.replicate_succ, List.replicate_zero, List.nil_append, List.cons_append, List.getElem?_cons_zero, List.getElem?_cons_succ, List.set_cons_zero, List.set_cons_succ, Option.bind_some, Option.map_some, Nat.reduceSub, Nat.reduceAdd, Int.toNat_natCast, Bool.not_false, Bool.not_true, okK_none]
      exact ⟨by simp only [gS2, qd_Q], trivial⟩
    · have e := dif_map (x :: r)
      simp only [List.map_cons] at e
      rw [e]
      refine ⟨(difQ (x :: r)).length, by rw [difQ_len]; simp, rfl, difQ (x :: r), f ++ [x], y3, y4, rfl, ?_, ?_, ?_, ?_⟩
      · rw [difQ_len]; simp; omega
      · rw [← he, List.append_assoc]
        congr 1
        rw [difQ_len]
        rfl
      · intro y hy
        rw [List.length_append, List.length_singleton]
        exact difQ_bt hb' y hy
      · simp
end PyI

set_option Elab.async false
set_option linter.all false
set_option maxRecDepth 100000
set_option maxHeartbeats 8000000
/-! powers through -/
namespace PyI
open PySem PySem.Spec PyProof.Rows Rw PyData
variable {τ : Type} {O : Pk τ} {W : Nat}
theorem enumQ_mem : ∀ (f : List Rat) (k : Nat), ∀ d ∈ enumD k (f.map Qd), ∃ (j : Nat) (c : Rat), d = .tup [nD j, Qd c] ∧ c ∈ f ∧ k ≤ j ∧ j < k + f.length
  | [], k, d, h => nomatch h
  | c :: f, k, d, h => by
    rcases List.mem_cons.mp h with rfl | h
    · exact ⟨k, c, rfl, List.mem_cons_self .., Nat.le_refl _, by simp⟩
    · obtain ⟨j, c', e, h1, h2, h3⟩ := enumQ_mem f (k + 1) d h
      exact ⟨j, c', e, List.mem_cons_of_mem _ h1, by omega, by simp; omega⟩
theorem enumQ_get : ∀ (f : List Rat) (k i : Nat) (d : D), (enumD k (f.map Qd))[i]? = some d → i < f.length ∧ d = .tup [nD (k + i), Qd (f.getD i 0)]
  | [], k, i, d, h => by simp [enumD] at h
  | x :: xs, k, 0, d, h => by
    have : D.tup [nD k, Qd x] = d := by simpa [enumD] using h
    exact ⟨by simp, this.symm⟩
  | x :: xs, k, i + 1, d, h => by
    have h' : (enumD (k + 1) (xs.map Qd))[i]? = some d := by simpa [enumD] using h
    obtain ⟨h1, h2⟩ := enumQ_get xs (k + 1) i d h'
    refine ⟨by simpa using h1, ?_⟩
    rw [h2, show k + 1 + i = k + (i + 1) by omega]
    rfl
def gA (s : Rat) (p : List Rat) : D → D := fun d => match d with
  | .tup [.int j, c] => if j.toNat < p.length then Qd (qd c + s * p.getD j.toNat 0) else c
  | _ => .non
theorem addP_map (s : Rat) (p : List Rat) : ∀ (f : List Rat) (k : Nat), (enumD k (f.map Qd)).map (gA s p) = (addP f s (p.drop k)).map Qd
  | [], _ => rfl
  | c :: f, k => by
    have ih := addP_map s p f (k + 1)
    simp only [List.map_cons, enumD]
    rw [ih]
    by_cases h : k < p.length
    · rw [List.drop_eq_getElem_cons h]
      simp only [addP, List.map_cons, gA, Int.toNat_natCast, if_pos h, qd_Q, List.getD_eq_getElem?_getD, List.getElem?_eq_getElem h, Option.getD_some]
    · rw [List.drop_of_length_le (by omega), List.drop_of_length_le (by omega)]
      have e : ∀ f : List Rat, addP f s [] = f := fun f => by cases f <;> rfl
      rw [e, e, List.map_cons]
      simp only [gA, Int.toNat_natCast, if_neg h]
theorem atQ {l : List Rat} {j : Nat} (h : j < l.length) : L2.atI (l.map Qd) (j : Int) = some (Qd (l.getD j 0)) := L2.atI_nat (by
  rw [List.getElem?_map, List.getElem?_eq_getElem h, List.getD_eq_getElem?_getD, List.getElem?_eq_getElem h]; rfl)
theorem setQ {l : List Rat} {j : Nat} {v : Rat} (h : j < l.length) : setAt (.lst (l.map Qd)) (.int (j : Int)) (Qd v) = some (.lst ((l.set j v).map Qd)) := by
  show (L2.ixN (l.map Qd).length (j : Int)).map _ = _
  rw [List.length_map, ixN_n h]
  simp [List.map_set]
/-- while late is worked on -/
def lt (K : Rat) (p : List Rat) (i : Nat) : List Rat := (lateR K 0 p).take i ++ (0 :: p).drop i
theorem lt_len (K : Rat) (p : List Rat) (i : Nat) : (lt K p i).length = p.length + 1 := by
  unfold lt
  rw [List.length_append, List.length_take, List.length_drop, lateR_len, List.length_cons]
  omega
theorem lateR_get (K : Rat) : ∀ (p : List Rat) (u : Rat) (i : Nat), i < p.length → (lateR K u p).getD i 0 = (u :: p).getD i 0 - K * p.getD i 0
  | [], _, i, h => by simp at h
  | c :: r, u, 0, _ => by simp [lateR]
  | c :: r, u, i + 1, h => by
    have := lateR_get K r c i (by simpa using h)
    simpa [lateR] using this
theorem lateR_last (K : Rat) : ∀ (p : List Rat) (u : Rat), (lateR K u p).getD p.length 0 = (u :: p).getD p.length 0
  | [], _ => rfl
  | c :: r, u => by
    have := lateR_last K r c
    simpa [lateR] using this
theorem getD_eq {l : List Rat} {i : Nat} (h : i < l.length) : l.getD i 0 = l[i] := by
  rw [List.getD_eq_getElem?_getD, List.getElem?_eq_getElem h]; rfl
theorem getD_mem {l : List Rat} {i : Nat} (h : i < l.length) : l.getD i 0 ∈ l := by
  rw [getD_eq h]; exact List.getElem_mem h
theorem lt_get {K : Rat} {p : List Rat} {i : Nat} (h : i < p.length + 1) : (lt K p i).getD i 0 = (0 :: p).getD i 0 := by
  unfold lt
  have h1 : ((lateR K 0 p).take i).length = i := by rw [List.length_take, lateR_len]; omega
  rw [List.getD_eq_getElem?_getD, List.getElem?_append_right (by omega), h1, Nat.sub_self, List.getElem?_drop, Nat.add_zero, List.getD_eq_getElem?_getD]
theorem lt_set {K : Rat} {p : List Rat} {i : Nat} (h : i < p.length) : (lt K p i).set i ((0 :: p).getD i 0 - K * p.getD i 0) = lt K p (i + 1) := by
  have h1 : ((lateR K 0 p).take i).length = i := by rw [List.length_take, lateR_len]; omega
  have hl : i < (lateR K 0 p).length := by rw [lateR_len]; omega
  have hd : (0 :: p).drop i = (0 :: p)[i]'(by simp; omega) :: (0 :: p).drop (i + 1) := List.drop_eq_getElem_cons (by simp; omega)
  unfold lt
  rw [hd, List.set_append_right _ _ (by omega), h1, Nat.sub_self, List.set_cons_zero, List.take_succ_eq_append_getElem hl, ← lateR_get K p 0 i h, getD_eq hl, List.append_assoc]
  rfl
theorem lt_end (K : Rat) (p : List Rat) : lt K p p.length = lateR K 0 p := by
  have hl : p.length < (lateR K 0 p).length := by rw [lateR_len]; omega
  have e := lateR_last K p 0
  rw [getD_eq hl] at e
  have h2 : lateR K 0 p = (lateR K 0 p).take p.length ++ [(lateR K 0 p)[p.length]] := by
    rw [← List.take_succ_eq_append_getElem hl, List.take_of_length_le (by rw [lateR_len]; omega)]
  unfold lt
  conv => rhs; rw [h2, e]
  congr 1
  rw [List.drop_eq_getElem_cons (by simp), List.drop_of_length_le (by simp), getD_eq (by simp)]
theorem Qd_kq (i : Nat) : Qd (kq i) = .tup [.int ((i : Nat) + 1 : Int), .int 1] := by
  show D.tup [.int (((i + 1 : Nat) : Int)), .int 1] = _
  rw [Int.natCast_add]
  rfl
theorem bits_kq {i : Nat} (h : i < 7) : bits 3 (kq i) := ⟨by show (((i + 1 : Nat) : Int)).natAbs ≤ _; omega, by show 1 ≤ _; omega⟩
theorem bits_uq {i : Nat} (h : i < 7) : bits 3 (uq i) := bits_div (by omega) (by decide) (by omega)
theorem s_powers (n : Nat) {z : D} {l : List Rat} {k : Nat} {t : τ} (hz : z = .lst (l.map Qd) ∨ z = .tup (l.map Qd)) (hb : ∀ x ∈ l, bt 2 k x) (h1k : 1 ≤ k) (hl : l.length ≤ 6) (hk : k ≤ 1000) (hW : 1000 < W) {Q : R → τ → Prop} (q : Q (.o (.lst ((pt l).map Qd))) t) :
    K2 (run O W prog (n + 4) i_powers_through [z] t) Q := by
  refine run_ (fn := f_powers_through) rfl rfl ?_
  unfold f_powers_through b_powers_through
  rw [x_seq]
  have bln : ∀ {k : R → Prop}, okK (b1D .len z) k ↔ k (.v (.int (l.length : Nat))) := fun {k} => by
    rcases hz with rfl | rfl
    · rw [b1_len_l, okK_some, List.length_map]
    · rw [b1_len_t, okK_some, List.length_map]
  simp only [e_var, v_v, v_o, e_non, e_bl, e_int, e_str, e_nil, e_dnil, e_cons, con_, e_tup, ls_, e_lst, e_bin, e_neg, int_, e_nt, e_and, e_or, e_ife, e_cmp, e_isc, e_call, e_pick, pick_, e_b1, e_b2, e_isin, e_ix, e_slc, e_rng1, e_rng2, e_enm, e_zp, zp_l, zp_t, e_comp, turn_, oc_s, oc_n, cmp_nil, cmp_cons, x_asg, x_par, x_sto, sto_, x_app, app_, x_ext, ext_, x_ex, x_pop, pop_, x_popj, x_ret, ret_v, ret_o, ret_k, x_ifs, x_brk, x_cnt, x_pas, sq_b, sq_c, sq_r, x_seq, forB_, x_fr, whlC_, x_whl, okK_some, okK_ite, okK_map, okK_bind, trK_t, trK_f, trK_map, K2_some, K3_some, frz, bindT, wipe, R.d_v, R.d_o, R.d_k, R.st_v, R.st_o, R.st_k, binD, cmpD, truth, isinD, ix_d, ix_l, ix_t, get_d, e_get, e_rev, e_scons, x_par3, aI0, aI1, b1_len_d, b1_int, b1_intb, b1_sorted_d, partD, slcD, b1_len_l, b1_len_t, b1_len_s, b1_abs, b1_all, b1_any, b1_sum, b1_tup_l, b1_tup_t, b1_lst_l, b1_lst_t, b1_max, b1_min, b1_sorted, b2D, iscD, items, begin_, List.map_cons, List.map_nil, List.replicate_succ, List.replicate_zero, List.nil_append, List.cons_append, List.getElem?_cons_zero, List.getElem?_cons_succ, List.set_cons_zero, List.set_cons_succ, Option.bind_some, Option.map_some, Nat.reduceSub, Nat.reduceAdd, Int.toNat_natCast, Bool.not_false, Bool.not_true, okK_none, bln, Int.toNat_natCast]
  refine ⟨(by simp only [List.length_cons, List.length_nil, List.length_append, List.length_map, sizeLine_eq]; omega), (by simp only [List.length_cons, List.length_nil, List.length_append, List.length_map, sizeLine_eq]; omega), ⟨by omega, by omega, (by simp only [List.length_cons, List.length_nil, sizeLine_eq]; omega)⟩, (by simp only [List.length_cons, List.length_nil, List.length_append, List.length_map, sizeLine_eq]; omega), (by simp only [List.length_cons, List.length_nil, List.length_append, List.length_map, sizeLine_eq]; omega), ?_⟩
  rw [sq_n, x_seq]
  have e0 : (List.replicate l.length [D.tup [D.int 0, D.int 1]]).flatten = (List.replicate l.length (0 : Rat)).map Qd := by
    rw [List.map_replicate, show [D.tup [D.int 0, D.int 1]] = [Qd 0] from rfl]
    generalize Qd 0 = d
    induction l.length with
    | zero => rfl
    | succ m ih => rw [List.replicate_succ, List.flatten_cons, ih, List.replicate_succ]; rfl
  rw [e0, show [D.tup [D.int 1, D.int 1]] = (pw 0).map Qd from rfl]
  simp only [e_var, v_v, v_o, e_non, e_bl, e_int, e_str, e_nil, e_dnil, e_cons, con_, e_tup, ls_, e_lst, e_bin, e_neg, int_, e_nt, e_and, e_or, e_ife, e_cmp, e_isc, e_call, e_pick, pick_, e_b1, e_b2, e_isin, e_ix, e_slc, e_rng1, e_rng2, e_enm, e_zp, zp_l, zp_t, e_comp, turn_, oc_s, oc_n, cmp_nil, cmp_cons, x_asg, x_par, x_sto, sto_, x_app, app_, x_ext, ext_, x_ex, x_pop, pop_, x_popj, x_ret, ret_v, ret_o, ret_k, x_ifs, x_brk, x_cnt, x_pas, sq_b, sq_c, sq_r, x_seq, forB_, x_fr, whlC_, x_whl, okK_some, okK_ite, okK_map, okK_bind, trK_t, trK_f, trK_map, K2_some, K3_some, frz, bindT, wipe, R.d_v, R.d_o, R.d_k, R.st_v, R.st_o, R.st_k, binD, cmpD, truth, isinD, ix_d, ix_l, ix_t, get_d, e_get, e_rev, e_scons, x_par3, aI0, aI1, b1_len_d, b1_int, b1_intb, b1_sorted_d, partD, slcD, b1_len_l, b1_len_t, b1_len_s, b1_abs, b1_all, b1_any, b1_sum, b1_tup_l, b1_tup_t, b1_lst_l, b1_lst_t, b1_max, b1_min, b1_sorted, b2D, iscD, items, begin_, List.map_cons, List.map_nil, List.replicate_succ, List.replicate_zero, List.nil_append, List.cons_append, List.getElem?_cons_zero, List.getElem?_cons_succ, List.set_cons_zero, List.set_cons_succ, Option.bind_some, Option.map_some, Nat.reduceSub, Nat.reduceAdd, Int.toNat_natCast, Bool.not_false, Bool.not_true, okK_none]
  refine s_steps n hz hb (by omega) (by have := pow_le2 h1k; omega) (by omega) (by omega) hW ?_
  simp only [e_var, v_v, v_o, e_non, e_bl, e_int, e_str, e_nil, e_dnil, e_cons, con_, e_tup, ls_, e_lst, e_bin, e_neg, int_, e_nt, e_and, e_or, e_ife, e_cmp, e_isc, e_call, e_pick, pick_, e_b1, e_b2, e_isin, e_ix, e_slc, e_rng1, e_rng2, e_enm, e_zp, zp_l, zp_t, e_comp, turn_, oc_s, oc_n, cmp_nil, cmp_cons, x_asg, x_par, x_sto, sto_, x_app, app_, x_ext, ext_, x_ex, x_pop, pop_, x_popj, x_ret, ret_v, ret_o, ret_k, x_ifs, x_brk, x_cnt, x_pas, sq_b, sq_c, sq_r, x_seq, forB_, x_fr, whlC_, x_whl, okK_some, okK_ite, okK_map, okK_bind, trK_t, trK_f, trK_map, K2_some, K3_some, frz, bindT, wipe, R.d_v, R.d_o, R.d_k, R.st_v, R.st_o, R.st_k, binD, cmpD, truth, isinD, ix_d, ix_l, ix_t, get_d, e_get, e_rev, e_scons, x_par3, aI0, aI1, b1_len_d, b1_int, b1_intb, b1_sorted_d, partD, slcD, b1_len_l, b1_len_t, b1_len_s, b1_abs, b1_all, b1_any, b1_sum, b1_tup_l, b1_tup_t, b1_lst_l, b1_lst_t, b1_max, b1_min, b1_sorted, b2D, iscD, items, begin_, List.map_cons, List.map_nil, List.replicate_succ, List.replicate_zero, List.nil_append, List.cons_append, List.getElem?_cons_zero, List.getElem?_cons_succ, List.set_cons_zero, List.set_cons_succ, Option.bind_some, Option.map_some, Nat.reduceSub, Nat.reduceAdd, Int.toNat_natCast, Bool.not_false, Bool.not_true, okK_none]
  have sl := stQ_len l.length l (Nat.le_refl _)
  have sb := stQ_bt l.length hb
  generalize hS : stQ l.length l = ss at *
  refine for_lst (fun i ρ t' => t' = t ∧ ∃ y3 y4 y5 y6 y7 : Option R, ρ = [some (.v z), some (.o (.lst ((fnd (List.replicate l.length 0) 0 (ss.take i)).map Qd))), some (.o (.lst ((pw i).map Qd))), y3, y4, y5, y6, y7]) ⟨rfl, none, none, none, none, none, rfl⟩ ?_ ?_
  · rintro i d ρ t' hd ⟨rfl, y3, y4, y5, y6, y7, rfl⟩
    obtain ⟨hi, rfl⟩ := enumQ_get _ _ _ _ hd
    rw [Nat.zero_add]
    have hi6 : i < 6 := by omega
    have bs : bt 2 (k + 6) (ss.getD i 0) := by
      rw [getD_eq hi]
      exact (sb _ (List.getElem_mem hi)).mono (by omega)
    have hft : (ss.take i).length = i := by rw [List.length_take]; omega
    have bf : ∀ x ∈ fnd (List.replicate l.length 0) 0 (ss.take i), bt 1440 (k + 36) x := fun x hx => by
      have := fnd_bt (ss.take i) (f := List.replicate l.length 0) (k := 0) (j := k + 30) (a := k + 6) (fun y hy => by rw [List.eq_of_mem_replicate hy]; exact bt_zero) (fun s hs => (sb s (List.mem_of_mem_take hs)).mono (by omega)) (by omega) (by omega) x hx
      exact this.mono (by omega)
    have fl := fnd_len (ss.take i) (List.replicate l.length 0) 0
    rw [List.length_replicate] at fl
    generalize hF : fnd (List.replicate l.length 0) 0 (ss.take i) = F at *
    have pl := pw_len i
    have pb := pw_bt i (by omega)
    have pbits : ∀ x ∈ pw i, bits 20 x := fun x hx => bt_bits (by omega) (by decide) (pb x hx)
    rw [forB_]
    simp only [bindT, R.st_v, okK_some, Option.bind_some, List.set_cons_succ, List.set_cons_zero]
    rw [x_seq]
    simp only [e_var, v_v, v_o, e_non, e_bl, e_int, e_str, e_nil, e_dnil, e_cons, con_, e_tup, ls_, e_lst, e_bin, e_neg, int_, e_nt, e_and, e_or, e_ife, e_cmp, e_isc, e_call, e_pick, pick_, e_b1, e_b2, e_isin, e_ix, e_slc, e_rng1, e_rng2, e_enm, e_zp, zp_l, zp_t, e_comp, turn_, oc_s, oc_n, cmp_nil, x_asg, x_par, x_sto, sto_, x_app, app_, x_ext, ext_, x_ex, x_pop, pop_, x_popj, x_ret, ret_v, ret_o, ret_k, x_ifs, x_brk, x_cnt, x_pas, sq_b, sq_c, sq_r, x_seq, forB_, x_fr, whlC_, x_whl, okK_some, okK_ite, okK_map, okK_bind, trK_t, trK_f, trK_map, K2_some, K3_some, frz, bindT, wipe, R.d_v, R.d_o, R.d_k, R.st_v, R.st_o, R.st_k, binD, cmpD, truth, isinD, ix_d, ix_l, ix_t, get_d, e_get, e_rev, e_scons, x_par3, aI0, aI1, b1_len_d, b1_int, b1_intb, b1_sorted_d, partD, slcD, b1_len_l, b1_len_t, b1_len_s, b1_abs, b1_all, b1_any, b1_sum, b1_tup_l, b1_tup_t, b1_lst_l, b1_lst_t, b1_max, b1_min, b1_sorted, b2D, iscD, items, begin_, List.map_cons, List.map_nil, List.replicate_succ, List.replicate_zero, List.nil_append, List.cons_append, List.getElem?_cons_zero, List.getElem?_cons_succ, List.set_cons_zero, List.set_cons_succ, Option.bind_some, Option.map_some, Nat.reduceSub, Nat.reduceAdd, Int.toNat_natCast, Bool.not_false, Bool.not_true, okK_none]
    rw [enumD_len, List.length_map]
    refine ⟨by rw [sizeLine_eq]; omega, ?_⟩
    refine cmp_map (gA (ss.getD i 0) (pw i)) _ _ (fun d hd => ?_) ?_
    · obtain ⟨j, c, rfl, hc, _, hj⟩ := enumQ_mem _ _ _ hd
      simp only [e_var, v_v, v_o, e_non, e_bl, e_int, e_str, e_nil, e_dnil, e_cons, con_, e_tup, ls_, e_lst, e_bin, e_neg, int_, e_nt, e_and, e_or, e_ife, e_cmp, e_isc, e_call, e_pick, pick_, e_b1, e_b2, e_isin, e_ix, e_slc, e_rng1, e_rng2, e_enm, e_zp, zp_l, zp_t, e_comp, turn_, oc_s, oc_n, cmp_nil, cmp_cons, x_asg, x_par, x_sto, sto_, x_app, app_, x_ext, ext_, x_ex, x_pop, pop_, x_popj, x_ret, ret_v, ret_o, ret_k, x_ifs, x_brk, x_cnt, x_pas, sq_n, sq_b, sq_c, sq_r, x_seq, forB_, x_fr, whlC_, x_whl, okK_some, okK_ite, okK_map, okK_bind, trK_t, trK_f, trK_map, K2_some, K3_some, frz, bindT, wipe, R.d_v, R.d_o, R.d_k, R.st_v, R.st_o, R.st_k, binD, cmpD, truth, isinD, ix_d, ix_l, ix_t, get_d, e_get, e_rev, e_scons, x_par3, aI0, aI1, b1_len_d, b1_int, b1_intb, b1_sorted_d, partD, slcD, b1_len_l, b1_len_t, b1_len_s, b1_abs, b1_all, b1_any, b1_sum, b1_tup_l, b1_tup_t, b1_lst_l, b1_lst_t, b1_max, b1_min, b1_sorted, b2D, iscD, items, begin_, List.map_cons, List.map_nil, List.replicate_succ, List.replicate_zero, List.nil_append, List.cons_append, List.getElem?_cons_zero, List.getElem?_cons_succ, List.set_cons_zero, List.set_cons_succ, Option.bind_some, Option.map_some, Nat.reduceSub, Nat.reduceAdd, Int.toNat_natCast, Bool.not_false, Bool.not_true, okK_none, List.length_map]
      refine trK_b.mpr ⟨fun h => ?_, fun h => ?_⟩
      · have h : j < (pw i).length := by have := of_decide_eq_true h; omega
        rw [atQ h, okK_some]
        have bp := pbits _ (getD_mem h)
        refine s_ftimes (n + 1) (bt_bits (by omega) (by have := pow_le2 (show 1 ≤ k + 6 by omega); omega) bs) bp (by omega) ?_
        simp only [e_var, v_v, v_o, e_non, e_bl, e_int, e_str, e_nil, e_dnil, e_cons, con_, e_tup, ls_, e_lst, e_bin, e_neg, int_, e_nt, e_and, e_or, e_ife, e_cmp, e_isc, e_call, e_pick, pick_, e_b1, e_b2, e_isin, e_ix, e_slc, e_rng1, e_rng2, e_enm, e_zp, zp_l, zp_t, e_comp, turn_, oc_s, oc_n, cmp_nil, cmp_cons, x_asg, x_par, x_sto, sto_, x_app, app_, x_ext, ext_, x_ex, x_pop, pop_, x_popj, x_ret, ret_v, ret_o, ret_k, x_ifs, x_brk, x_cnt, x_pas, sq_n, sq_b, sq_c, sq_r, x_seq, forB_, x_fr, whlC_, x_whl, okK_some, okK_ite, okK_map, okK_bind, trK_t, trK_f, trK_map, K2_some, K3_some, frz, bindT, wipe, R.d_v, R.d_o, R.d_k, R.st_v, R.st_o, R.st_k, binD, cmpD, truth, isinD, ix_d, ix_l, ix_t, get_d, e_get, e_rev, e_scons, x_par3, aI0, aI1, b1_len_d, b1_int, b1_intb, b1_sorted_d, partD, slcD, b1_len_l, b1_len_t, b1_len_s, b1_abs, b1_all, b1_any, b1_sum, b1_tup_l, b1_tup_t, b1_lst_l, b1_lst_t, b1_max, b1_min, b1_sorted, b2D, iscD, items, begin_, List.map_cons, List.map_nil, List.replicate_succ, List.replicate_zero, List.nil_append, List.cons_append, List.getElem?_cons_zero, List.getElem?_cons_succ, List.set_cons_zero, List.set_cons_succ, Option.bind_some, Option.map_some, Nat.reduceSub, Nat.reduceAdd, Int.toNat_natCast, Bool.not_false, Bool.not_true, okK_none]
        refine s_fsum (n + 1) (bt_bits (by omega) (by have := pow_le2 (show 11 ≤ k + 36 by omega); omega) (bf c hc)) (bits_mul (bt_bits (k := k + 6) (by omega) (by have := pow_le2 (show 1 ≤ k + 6 by omega); omega) bs) bp) (by omega) ?_
        simp only [e_var, v_v, v_o, e_non, e_bl, e_int, e_str, e_nil, e_dnil, e_cons, con_, e_tup, ls_, e_lst, e_bin, e_neg, int_, e_nt, e_and, e_or, e_ife, e_cmp, e_isc, e_call, e_pick, pick_, e_b1, e_b2, e_isin, e_ix, e_slc, e_rng1, e_rng2, e_enm, e_zp, zp_l, zp_t, e_comp, turn_, oc_s, oc_n, cmp_nil, cmp_cons, x_asg, x_par, x_sto, sto_, x_app, app_, x_ext, ext_, x_ex, x_pop, pop_, x_popj, x_ret, ret_v, ret_o, ret_k, x_ifs, x_brk, x_cnt, x_pas, sq_n, sq_b, sq_c, sq_r, x_seq, forB_, x_fr, whlC_, x_whl, okK_some, okK_ite, okK_map, okK_bind, trK_t, trK_f, trK_map, K2_some, K3_some, frz, bindT, wipe, R.d_v, R.d_o, R.d_k, R.st_v, R.st_o, R.st_k, binD, cmpD, truth, isinD, ix_d, ix_l, ix_t, get_d, e_get, e_rev, e_scons, x_par3, aI0, aI1, b1_len_d, b1_int, b1_intb, b1_sorted_d, partD, slcD, b1_len_l, b1_len_t, b1_len_s, b1_abs, b1_all, b1_any, b1_sum, b1_tup_l, b1_tup_t, b1_lst_l, b1_lst_t, b1_max, b1_min, b1_sorted, b2D, iscD, items, begin_, List.map_cons, List.map_nil, List.replicate_succ, List.replicate_zero, List.nil_append, List.cons_append, List.getElem?_cons_zero, List.getElem?_cons_succ, List.set_cons_zero, List.set_cons_succ, Option.bind_some, Option.map_some, Nat.reduceSub, Nat.reduceAdd, Int.toNat_natCast, Bool.not_false, Bool.not_true, okK_none]
        refine ⟨?_, trivial⟩
        simp only [gA, Int.toNat_natCast, if_pos h, qd_Q]
      · have h : ¬ j < (pw i).length := by have := of_decide_eq_false h; omega
        refine ⟨?_, trivial⟩
        simp only [gA, Int.toNat_natCast, if_neg h]
    · rw [addP_map, List.drop_zero, sq_n, x_seq]
      simp only [e_var, v_v, v_o, e_non, e_bl, e_int, e_str, e_nil, e_dnil, e_cons, con_, e_tup, ls_, e_lst, e_bin, e_neg, int_, e_nt, e_and, e_or, e_ife, e_cmp, e_isc, e_call, e_pick, pick_, e_b1, e_b2, e_isin, e_ix, e_slc, e_rng1, e_rng2, e_enm, e_zp, zp_l, zp_t, e_comp, turn_, oc_s, oc_n, cmp_nil, x_asg, x_par, x_sto, sto_, x_app, app_, x_ext, ext_, x_ex, x_pop, pop_, x_popj, x_ret, ret_v, ret_o, ret_k, x_ifs, x_brk, x_cnt, x_pas, sq_b, sq_c, sq_r, x_seq, forB_, x_fr, whlC_, x_whl, okK_some, okK_ite, okK_map, okK_bind, trK_t, trK_f, trK_map, K2_some, K3_some, frz, bindT, wipe, R.d_v, R.d_o, R.d_k, R.st_v, R.st_o, R.st_k, binD, cmpD, truth, isinD, ix_d, ix_l, ix_t, get_d, e_get, e_rev, e_scons, x_par3, aI0, aI1, b1_len_d, b1_int, b1_intb, b1_sorted_d, partD, slcD, b1_len_l, b1_len_t, b1_len_s, b1_abs, b1_all, b1_any, b1_sum, b1_tup_l, b1_tup_t, b1_lst_l, b1_lst_t, b1_max, b1_min, b1_sorted, b2D, iscD, items, begin_, List.map_cons, List.map_nil, List.replicate_succ, List.replicate_zero, List.nil_append, List.cons_append, List.getElem?_cons_zero, List.getElem?_cons_succ, List.set_cons_zero, List.set_cons_succ, Option.bind_some, Option.map_some, Nat.reduceSub, Nat.reduceAdd, Int.toNat_natCast, Bool.not_false, Bool.not_true, okK_none]
      rw [List.append_nil, show D.tup [D.int 0, D.int 1] :: (pw i).map Qd = ((0 : Rat) :: pw i).map Qd from rfl]
      refine ⟨(by simp only [List.length_cons, List.length_nil, List.length_append, List.length_map, sizeLine_eq]; omega), (by rw [List.length_map, List.length_cons, sizeLine_eq]; omega), ?_⟩
      rw [sq_n, x_seq]
      simp only [e_var, v_v, v_o, e_non, e_bl, e_int, e_str, e_nil, e_dnil, e_cons, con_, e_tup, ls_, e_lst, e_bin, e_neg, int_, e_nt, e_and, e_or, e_ife, e_cmp, e_isc, e_call, e_pick, pick_, e_b1, e_b2, e_isin, e_ix, e_slc, e_rng1, e_rng2, e_enm, e_zp, zp_l, zp_t, e_comp, turn_, oc_s, oc_n, cmp_nil, x_asg, x_par, x_sto, sto_, x_app, app_, x_ext, ext_, x_ex, x_pop, pop_, x_popj, x_ret, ret_v, ret_o, ret_k, x_ifs, x_brk, x_cnt, x_pas, sq_b, sq_c, sq_r, x_seq, forB_, x_fr, whlC_, x_whl, okK_some, okK_ite, okK_map, okK_bind, trK_t, trK_f, trK_map, K2_some, K3_some, frz, bindT, wipe, R.d_v, R.d_o, R.d_k, R.st_v, R.st_o, R.st_k, binD, cmpD, truth, isinD, ix_d, ix_l, ix_t, get_d, e_get, e_rev, e_scons, x_par3, aI0, aI1, b1_len_d, b1_int, b1_intb, b1_sorted_d, partD, slcD, b1_len_l, b1_len_t, b1_len_s, b1_abs, b1_all, b1_any, b1_sum, b1_tup_l, b1_tup_t, b1_lst_l, b1_lst_t, b1_max, b1_min, b1_sorted, b2D, iscD, items, begin_, List.map_cons, List.map_nil, List.replicate_succ, List.replicate_zero, List.nil_append, List.cons_append, List.getElem?_cons_zero, List.getElem?_cons_succ, List.set_cons_zero, List.set_cons_succ, Option.bind_some, Option.map_some, Nat.reduceSub, Nat.reduceAdd, Int.toNat_natCast, Bool.not_false, Bool.not_true, okK_none]
      rw [show Qd 0 :: (pw i).map Qd = (lt (kq i) (pw i) 0).map Qd from rfl]
      refine for_lst (fun j ρ t2 => t2 = t' ∧ ∃ y6 y7 : Option R, ρ = [some (.v z), some (.o (.lst ((addP F (ss.getD i 0) (pw i)).map Qd))), some (.v (.lst ((pw i).map Qd))), some (.v (nD i)), some (.v (Qd (ss.getD i 0))), some (.o (.lst ((lt (kq i) (pw i) j).map Qd))), y6, y7]) ⟨rfl, _, _, rfl⟩ ?_ ?_
      · rintro j d ρ t2 hd ⟨rfl, y6, y7, rfl⟩
        obtain ⟨hj, rfl⟩ := enumQ_get _ _ _ _ hd
        rw [Nat.zero_add]
        have hjl : j < (lt (kq i) (pw i) j).length := by rw [lt_len]; omega
        simp only [e_var, v_v, v_o, e_non, e_bl, e_int, e_str, e_nil, e_dnil, e_cons, con_, e_tup, ls_, e_lst, e_bin, e_neg, int_, e_nt, e_and, e_or, e_ife, e_cmp, e_isc, e_call, e_pick, pick_, e_b1, e_b2, e_isin, e_ix, e_slc, e_rng1, e_rng2, e_enm, e_zp, zp_l, zp_t, e_comp, turn_, oc_s, oc_n, cmp_nil, x_asg, x_par, x_sto, sto_, x_app, app_, x_ext, ext_, x_ex, x_pop, pop_, x_popj, x_ret, ret_v, ret_o, ret_k, x_ifs, x_brk, x_cnt, x_pas, sq_b, sq_c, sq_r, x_seq, forB_, x_fr, whlC_, x_whl, okK_some, okK_ite, okK_map, okK_bind, trK_t, trK_f, trK_map, K2_some, K3_some, frz, bindT, wipe, R.d_v, R.d_o, R.d_k, R.st_v, R.st_o, R.st_k, binD, cmpD, truth, isinD, ix_d, ix_l, ix_t, get_d, e_get, e_rev, e_scons, x_par3, aI0, aI1, b1_len_d, b1_int, b1_intb, b1_sorted_d, partD, slcD, b1_len_l, b1_len_t, b1_len_s, b1_abs, b1_all, b1_any, b1_sum, b1_tup_l, b1_tup_t, b1_lst_l, b1_lst_t, b1_max, b1_min, b1_sorted, b2D, iscD, items, begin_, List.map_cons, List.map_nil, List.replicate_succ, List.replicate_zero, List.nil_append, List.cons_append, List.getElem?_cons_zero, List.getElem?_cons_succ, List.set_cons_zero, List.set_cons_succ, Option.bind_some, Option.map_some, Nat.reduceSub, Nat.reduceAdd, Int.toNat_natCast, Bool.not_false, Bool.not_true, okK_none]
        rw [atQ hjl, okK_some, lt_get (by omega)]
        refine ⟨(by simp only [List.length_cons, List.length_nil, List.length_append, List.length_map, sizeLine_eq]; omega), ?_⟩
        rw [← Qd_kq]
        have bp := pbits _ (getD_mem hj)
        have b0 : bits 20 (((0 : Rat) :: pw i).getD j 0) := by
          have hj2 : j < ((0 : Rat) :: pw i).length := by simp; omega
          rw [getD_eq hj2]
          rcases List.mem_cons.mp (List.getElem_mem hj2) with h | h
          · rw [h]; exact ⟨Nat.zero_le _, by show 1 ≤ _; omega⟩
          · exact pbits _ h
        refine s_ftimes (n + 1) (bits_kq (by omega)) bp (by omega) ?_
        simp only [e_var, v_v, v_o, e_non, e_bl, e_int, e_str, e_nil, e_dnil, e_cons, con_, e_tup, ls_, e_lst, e_bin, e_neg, int_, e_nt, e_and, e_or, e_ife, e_cmp, e_isc, e_call, e_pick, pick_, e_b1, e_b2, e_isin, e_ix, e_slc, e_rng1, e_rng2, e_enm, e_zp, zp_l, zp_t, e_comp, turn_, oc_s, oc_n, cmp_nil, x_asg, x_par, x_sto, sto_, x_app, app_, x_ext, ext_, x_ex, x_pop, pop_, x_popj, x_ret, ret_v, ret_o, ret_k, x_ifs, x_brk, x_cnt, x_pas, sq_b, sq_c, sq_r, x_seq, forB_, x_fr, whlC_, x_whl, okK_some, okK_ite, okK_map, okK_bind, trK_t, trK_f, trK_map, K2_some, K3_some, frz, bindT, wipe, R.d_v, R.d_o, R.d_k, R.st_v, R.st_o, R.st_k, binD, cmpD, truth, isinD, ix_d, ix_l, ix_t, get_d, e_get, e_rev, e_scons, x_par3, aI0, aI1, b1_len_d, b1_int, b1_intb, b1_sorted_d, partD, slcD, b1_len_l, b1_len_t, b1_len_s, b1_abs, b1_all, b1_any, b1_sum, b1_tup_l, b1_tup_t, b1_lst_l, b1_lst_t, b1_max, b1_min, b1_sorted, b2D, iscD, items, begin_, List.map_cons, List.map_nil, List.replicate_succ, List.replicate_zero, List.nil_append, List.cons_append, List.getElem?_cons_zero, List.getElem?_cons_succ, List.set_cons_zero, List.set_cons_succ, Option.bind_some, Option.map_some, Nat.reduceSub, Nat.reduceAdd, Int.toNat_natCast, Bool.not_false, Bool.not_true, okK_none]
        refine s_fless (n + 1) b0 (bits_mul (bits_kq (by omega)) bp) (by omega) ?_
        simp only [e_var, v_v, v_o, e_non, e_bl, e_int, e_str, e_nil, e_dnil, e_cons, con_, e_tup, ls_, e_lst, e_bin, e_neg, int_, e_nt, e_and, e_or, e_ife, e_cmp, e_isc, e_call, e_pick, pick_, e_b1, e_b2, e_isin, e_ix, e_slc, e_rng1, e_rng2, e_enm, e_zp, zp_l, zp_t, e_comp, turn_, oc_s, oc_n, cmp_nil, x_asg, x_par, x_sto, sto_, x_app, app_, x_ext, ext_, x_ex, x_pop, pop_, x_popj, x_ret, ret_v, ret_o, ret_k, x_ifs, x_brk, x_cnt, x_pas, sq_b, sq_c, sq_r, x_seq, forB_, x_fr, whlC_, x_whl, okK_some, okK_ite, okK_map, okK_bind, trK_t, trK_f, trK_map, K2_some, K3_some, frz, bindT, wipe, R.d_v, R.d_o, R.d_k, R.st_v, R.st_o, R.st_k, binD, cmpD, truth, isinD, ix_d, ix_l, ix_t, get_d, e_get, e_rev, e_scons, x_par3, aI0, aI1, b1_len_d, b1_int, b1_intb, b1_sorted_d, partD, slcD, b1_len_l, b1_len_t, b1_len_s, b1_abs, b1_all, b1_any, b1_sum, b1_tup_l, b1_tup_t, b1_lst_l, b1_lst_t, b1_max, b1_min, b1_sorted, b2D, iscD, items, begin_, List.map_cons, List.map_nil, List.replicate_succ, List.replicate_zero, List.nil_append, List.cons_append, List.getElem?_cons_zero, List.getElem?_cons_succ, List.set_cons_zero, List.set_cons_succ, Option.bind_some, Option.map_some, Nat.reduceSub, Nat.reduceAdd, Int.toNat_natCast, Bool.not_false, Bool.not_true, okK_none]
        rw [setQ hjl, okK_some, lt_set hj]
        exact ⟨trivial, _, _, rfl⟩
      · rintro ρ t2 ⟨rfl, y6, y7, rfl⟩
        rw [enumD_len, List.length_map, lt_end, sq_n]
        simp only [e_var, v_v, v_o, e_non, e_bl, e_int, e_str, e_nil, e_dnil, e_cons, con_, e_tup, ls_, e_lst, e_bin, e_neg, int_, e_nt, e_and, e_or, e_ife, e_cmp, e_isc, e_call, e_pick, pick_, e_b1, e_b2, e_isin, e_ix, e_slc, e_rng1, e_rng2, e_enm, e_zp, zp_l, zp_t, e_comp, turn_, oc_s, oc_n, cmp_nil, x_asg, x_par, x_sto, sto_, x_app, app_, x_ext, ext_, x_ex, x_pop, pop_, x_popj, x_ret, ret_v, ret_o, ret_k, x_ifs, x_brk, x_cnt, x_pas, sq_b, sq_c, sq_r, x_seq, forB_, x_fr, whlC_, x_whl, okK_some, okK_ite, okK_map, okK_bind, trK_t, trK_f, trK_map, K2_some, K3_some, frz, bindT, wipe, R.d_v, R.d_o, R.d_k, R.st_v, R.st_o, R.st_k, binD, cmpD, truth, isinD, ix_d, ix_l, ix_t, get_d, e_get, e_rev, e_scons, x_par3, aI0, aI1, b1_len_d, b1_int, b1_intb, b1_sorted_d, partD, slcD, b1_len_l, b1_len_t, b1_len_s, b1_abs, b1_all, b1_any, b1_sum, b1_tup_l, b1_tup_t, b1_lst_l, b1_lst_t, b1_max, b1_min, b1_sorted, b2D, iscD, items, begin_, List.map_cons, List.map_nil, List.replicate_succ, List.replicate_zero, List.nil_append, List.cons_append, List.getElem?_cons_zero, List.getElem?_cons_succ, List.set_cons_zero, List.set_cons_succ, Option.bind_some, Option.map_some, Nat.reduceSub, Nat.reduceAdd, Int.toNat_natCast, Bool.not_false, Bool.not_true, okK_none]
        rw [List.length_map, lateR_len]
        refine ⟨by rw [sizeLine_eq]; omega, ?_⟩
        refine cmp_map (fun d => Qd (qd d * uq i)) _ _ (fun d hd => ?_) ?_
        · obtain ⟨c, hc, rfl⟩ := List.mem_map.mp hd
          simp only [e_var, v_v, v_o, e_non, e_bl, e_int, e_str, e_nil, e_dnil, e_cons, con_, e_tup, ls_, e_lst, e_bin, e_neg, int_, e_nt, e_and, e_or, e_ife, e_cmp, e_isc, e_call, e_pick, pick_, e_b1, e_b2, e_isin, e_ix, e_slc, e_rng1, e_rng2, e_enm, e_zp, zp_l, zp_t, e_comp, turn_, oc_s, oc_n, cmp_nil, cmp_cons, x_asg, x_par, x_sto, sto_, x_app, app_, x_ext, ext_, x_ex, x_pop, pop_, x_popj, x_ret, ret_v, ret_o, ret_k, x_ifs, x_brk, x_cnt, x_pas, sq_n, sq_b, sq_c, sq_r, x_seq, forB_, x_fr, whlC_, x_whl, okK_some, okK_ite, okK_map, okK_bind, trK_t, trK_f, trK_map, K2_some, K3_some, frz, bindT, wipe, R.d_v, R.d_o, R.d_k, R.st_v, R.st_o, R.st_k, binD, cmpD, truth, isinD, ix_d, ix_l, ix_t, get_d, e_get, e_rev, e_scons, x_par3, aI0, aI1, b1_len_d, b1_int, b1_intb, b1_sorted_d, partD, slcD, b1_len_l, b1_len_t, b1_len_s, b1_abs, b1_all, b1_any, b1_sum, b1_tup_l, b1_tup_t, b1_lst_l, b1_lst_t, b1_max, b1_min, b1_sorted, b2D, iscD, items, begin_, List.map_cons, List.map_nil, List.replicate_succ, List.replicate_zero, List.nil_append, List.cons_append, List.getElem?_cons_zero, List.getElem?_cons_succ, List.set_cons_zero, List.set_cons_succ, Option.bind_some, Option.map_some, Nat.reduceSub, Nat.reduceAdd, Int.toNat_natCast, Bool.not_false, Bool.not_true, okK_none]
          refine s_fof (n + 2) (by omega) (Nat.le_trans (show _ ≤ 2 ^ 3 by omega) (pow_le2 (by omega))) ?_
          simp only [e_var, v_v, v_o, e_non, e_bl, e_int, e_str, e_nil, e_dnil, e_cons, con_, e_tup, ls_, e_lst, e_bin, e_neg, int_, e_nt, e_and, e_or, e_ife, e_cmp, e_isc, e_call, e_pick, pick_, e_b1, e_b2, e_isin, e_ix, e_slc, e_rng1, e_rng2, e_enm, e_zp, zp_l, zp_t, e_comp, turn_, oc_s, oc_n, cmp_nil, cmp_cons, x_asg, x_par, x_sto, sto_, x_app, app_, x_ext, ext_, x_ex, x_pop, pop_, x_popj, x_ret, ret_v, ret_o, ret_k, x_ifs, x_brk, x_cnt, x_pas, sq_n, sq_b, sq_c, sq_r, x_seq, forB_, x_fr, whlC_, x_whl, okK_some, okK_ite, okK_map, okK_bind, trK_t, trK_f, trK_map, K2_some, K3_some, frz, bindT, wipe, R.d_v, R.d_o, R.d_k, R.st_v, R.st_o, R.st_k, binD, cmpD, truth, isinD, ix_d, ix_l, ix_t, get_d, e_get, e_rev, e_scons, x_par3, aI0, aI1, b1_len_d, b1_int, b1_intb, b1_sorted_d, partD, slcD, b1_len_l, b1_len_t, b1_len_s, b1_abs, b1_all, b1_any, b1_sum, b1_tup_l, b1_tup_t, b1_lst_l, b1_lst_t, b1_max, b1_min, b1_sorted, b2D, iscD, items, begin_, List.map_cons, List.map_nil, List.replicate_succ, List.replicate_zero, List.nil_append, List.cons_append, List.getElem?_cons_zero, List.getElem?_cons_succ, List.set_cons_zero, List.set_cons_succ, Option.bind_some, Option.map_some, Nat.reduceSub, Nat.reduceAdd, Int.toNat_natCast, Bool.not_false, Bool.not_true, okK_none]
          have eu : Rat.divInt 1 ((i : Int) + 1) = uq i := by unfold uq; rw [Int.natCast_add]; rfl
          rw [eu]
          have bc : bits 64 c := by
            obtain ⟨j, hj, rfl⟩ := List.getElem_of_mem hc
            rw [lateR_len] at hj
            by_cases h : j < (pw i).length
            · have e := lateR_get (kq i) (pw i) 0 j h
              rw [getD_eq (by rw [lateR_len]; omega)] at e
              rw [e]
              have bp := pbits _ (getD_mem h)
              have b0 : bits 20 (((0 : Rat) :: pw i).getD j 0) := by
                have hj2 : j < ((0 : Rat) :: pw i).length := by simp; omega
                rw [getD_eq hj2]
                rcases List.mem_cons.mp (List.getElem_mem hj2) with h | h
                · rw [h]; exact ⟨Nat.zero_le _, by show 1 ≤ _; omega⟩
                · exact pbits _ h
              exact (bits_sub b0 (bits_mul (bits_kq (show i < 7 by omega)) bp)).mono (by omega)
            · have hj2 : j = (pw i).length := by omega
              subst hj2
              have e := lateR_last (kq i) (pw i) 0
              rw [getD_eq (by rw [lateR_len]; omega)] at e
              rw [e]
              have hj2 : (pw i).length < ((0 : Rat) :: pw i).length := by simp
              rw [getD_eq hj2]
              rcases List.mem_cons.mp (List.getElem_mem hj2) with h | h
              · rw [h]; exact ⟨Nat.zero_le _, by show 1 ≤ _; omega⟩
              · exact (pbits _ h).mono (by omega)
          refine s_ftimes (n + 1) bc (bits_uq (by omega)) (by omega) ?_
          simp only [e_var, v_v, v_o, e_non, e_bl, e_int, e_str, e_nil, e_dnil, e_cons, con_, e_tup, ls_, e_lst, e_bin, e_neg, int_, e_nt, e_and, e_or, e_ife, e_cmp, e_isc, e_call, e_pick, pick_, e_b1, e_b2, e_isin, e_ix, e_slc, e_rng1, e_rng2, e_enm, e_zp, zp_l, zp_t, e_comp, turn_, oc_s, oc_n, cmp_nil, cmp_cons, x_asg, x_par, x_sto, sto_, x_app, app_, x_ext, ext_, x_ex, x_pop, pop_, x_popj, x_ret, ret_v, ret_o, ret_k, x_ifs, x_brk, x_cnt, x_pas, sq_n, sq_b, sq_c, sq_r, x_seq, forB_, x_fr, whlC_, x_whl, okK_some, okK_ite, okK_map, okK_bind, trK_t, trK_f, trK_map, K2_some, K3_some, frz, bindT, wipe, R.d_v, R.d_o, R.d_k, R.st_v, R.st_o, R.st_k, binD, cmpD, truth, isinD, ix_d, ix_l, ix_t, get_d, e_get, e_rev, e_scons, x_par3, aI0, aI1, b1_len_d, b1_int, b1_intb, b1_sorted_d, partD, slcD, b1_len_l, b1_len_t, b1_len_s, b1_abs, b1_all, b1_any, b1_sum, b1_tup_l, b1_tup_t, b1_lst_l, b1_lst_t, b1_max, b1_min, b1_sorted, b2D, iscD, items, begin_, List.map_cons, List.map_nil, List.replicate_succ, List.replicate_zero, List.nil_append, List.cons_append, List.getElem?_cons_zero, List.getElem?_cons_succ, List.set_cons_zero, List.set_cons_succ, Option.bind_some, Option.map_some, Nat.reduceSub, Nat.reduceAdd, Int.toNat_natCast, Bool.not_false, Bool.not_true, okK_none]
          refine ⟨by rw [qd_Q], trivial⟩
        · have e1 : ((lateR (kq i) 0 (pw i)).map Qd).map (fun d => Qd (qd d * uq i)) = (pw (i + 1)).map Qd := by
            rw [List.map_map, pw, nxq, List.map_map]
            refine List.map_congr_left fun c _ => ?_
            simp only [Function.comp, qd_Q]
          rw [e1]
          have e2 : fnd (List.replicate l.length 0) 0 (ss.take (i + 1)) = addP F (ss.getD i 0) (pw i) := by
            rw [List.take_succ_eq_append_getElem hi, fnd_snoc, hF, hft, Nat.zero_add, getD_eq hi]
          rw [e2]
          exact ⟨rfl, _, _, _, _, _, rfl⟩
  · rintro ρ t' ⟨rfl, y3, y4, y5, y6, y7, rfl⟩
    rw [sq_n]
    simp only [e_var, v_v, v_o, e_non, e_bl, e_int, e_str, e_nil, e_dnil, e_cons, con_, e_tup, ls_, e_lst, e_bin, e_neg, int_, e_nt, e_and, e_or, e_ife, e_cmp, e_isc, e_call, e_pick, pick_, e_b1, e_b2, e_isin, e_ix, e_slc, e_rng1, e_rng2, e_enm, e_zp, zp_l, zp_t, e_comp, turn_, oc_s, oc_n, cmp_nil, cmp_cons, x_asg, x_par, x_sto, sto_, x_app, app_, x_ext, ext_, x_ex, x_pop, pop_, x_popj, x_ret, ret_v, ret_o, ret_k, x_ifs, x_brk, x_cnt, x_pas, sq_b, sq_c, sq_r, x_seq, forB_, x_fr, whlC_, x_whl, okK_some, okK_ite, okK_map, okK_bind, trK_t, trK_f, trK_map, K2_some, K3_some, frz, bindT, wipe, R.d_v, R.d_o, R.d_k, R.st_v, R.st_o, R.st_k, binD, cmpD, truth, isinD, ix_d, ix_l, ix_t, get_d, e_get, e_rev, e_scons, x_par3, aI0, aI1, b1_len_d, b1_int, b1_intb, b1_sorted_d, partD, slcD, b1_len_l, b1_len_t, b1_len_s, b1_abs, b1_all, b1_any, b1_sum, b1_tup_l, b1_tup_t, b1_lst_l, b1_lst_t, b1_max, b1_min, b1_sorted, b2D, iscD, items, begin_, List.map_cons, List.map_nil, List.replicate_succ, List.replicate_zero, List.nil_append, List.cons_append, List.getElem?_cons_zero, List.getElem?_cons_succ, List.set_cons_zero, List.set_cons_succ, Option.bind_some, Option.map_some, Nat.reduceSub, Nat.reduceAdd, Int.toNat_natCast, Bool.not_false, Bool.not_true, okK_none]
    rw [enumD_len, List.length_map, List.take_length]
    subst hS
    exact q
end PyI

set_option Elab.async false
set_option linter.all false
set_option maxRecDepth 100000
set_option maxHeartbeats 8000000
/-! drawn forms through tables -/
namespace PyI
open PySem PySem.Spec PyProof.Rows Rw PyData
variable {τ : Type} {O : Pk τ} {W : Nat}
def col (ls : List (List Rat)) (e : Nat) : List Rat := ls.map fun l => (pt l).getD e 0
def sc (ls : List (List Rat)) (e : Nat) : List Rat := stQ ls.length (col ls e)
def inte (ls : List (List Rat)) (e : Nat) : Prop := ∀ c ∈ sc ls e, c.den = 1
def rowOf (ls : List (List Rat)) (e : Nat) : List Int := strip ((sc ls e).map fun c => c.num)
def dnP (ls : List (List Rat)) (w : Nat) : Dn := (List.range w).map fun e => (e, rowOf ls e)
abbrev lQ (l : List Rat) : D := .lst (l.map Qd)
abbrev tQ (l : List Rat) : D := .tup (l.map Qd)
theorem toPs_lQ : ∀ ls : List (List Rat), D.toPs (ls.map lQ) = some (ls.map fun l => .list (l.map QP))
  | [] => rfl
  | l :: ls => by
    have e : (lQ l).toP = some (.list (l.map QP)) := by simp only [D.toP, toPs_Q, Option.map_some]
    simp only [List.map_cons, D.toPs, e, toPs_lQ ls, Option.bind_some, Option.map_some]
theorem lay_lQ : ∀ ls : List (List Rat), canLayAll0 (ls.map fun l => PyData.list (l.map QP)) = true
  | [] => rfl
  | l :: ls => by simp only [List.map_cons, canLayAll0, canLay0, lay_Q, lay_lQ ls, Bool.and_self]
theorem depth_lQ : ∀ ls : List (List Rat), depthAll (ls.map fun l => PyData.list (l.map QP)) ≤ 2
  | [] => by simp [depthAll]
  | l :: ls => by
    have := depth_lQ ls
    have := depth_Q l
    simp only [List.map_cons, depthAll, PyData.depth]
    omega
theorem eq_lQ_nil (ls : List (List Rat)) : eqD (.lst (ls.map lQ)) (.lst []) = some (decide (ls = [])) := by
  have s : SeqAt.shaped (.list (ls.map fun l => PyData.list (l.map QP))) = true := by
    have := depth_lQ ls
    simp only [SeqAt.shaped, canLay0, lay_lQ, PyData.depth, Bool.true_and]
    exact decide_eq_true (by omega)
  have s0 : SeqAt.shaped (.list []) = true := by
    simp only [SeqAt.shaped, canLay0, canLayAll0, PyData.depth, depthAll, Bool.true_and]
    exact decide_eq_true (by omega)
  unfold eqD
  simp only [D.toP, D.toPs, toPs_lQ, Option.map_some, s, s0, Bool.and_self, if_true, eqv]
  cases ls with
  | nil => simp [eqvAll]
  | cons l ls => simp [eqvAll]
theorem col_bt {ls : List (List Rat)} {k w : Nat} (hb : ∀ l ∈ ls, ∀ x ∈ l, bt 2 k x) (hw : ∀ l ∈ ls, l.length = w) (hw6 : w ≤ 6) (e : Nat) (he : e < w) : ∀ x ∈ col ls e, bt 1440 (k + 40) x := fun x hx => by
  obtain ⟨l, hl, rfl⟩ := List.mem_map.mp hx
  exact pt_bt (hb l hl) (by rw [hw l hl]; exact hw6) _ (getD_mem (by rw [pt_len, hw l hl]; exact he))
theorem sc_bits {ls : List (List Rat)} {k w : Nat} (hb : ∀ l ∈ ls, ∀ x ∈ l, bt 2 k x) (hw : ∀ l ∈ ls, l.length = w) (hw6 : w ≤ 6) (hl6 : ls.length ≤ 6) (e : Nat) (he : e < w) : ∀ x ∈ sc ls e, bits (k + 46) x := fun x hx => by
  have := stQ_bt ls.length (col_bt hb hw hw6 e he) x hx
  exact bt_bits (by omega) (Nat.le_trans (show 1440 ≤ 2 ^ 46 by decide) (pow_le2 (by omega))) (this.mono (show _ ≤ k + 46 by omega))
theorem sc_len (ls : List (List Rat)) (e : Nat) : (sc ls e).length = ls.length := by
  have h : (col ls e).length = ls.length := by rw [col, List.length_map]
  unfold sc
  rw [stQ_len _ _ (by omega), h]
theorem dnP_bnd {ls : List (List Rat)} {k w : Nat} (hb : ∀ l ∈ ls, ∀ x ∈ l, bt 2 k x) (hw : ∀ l ∈ ls, l.length = w) (hw6 : w ≤ 6) (hl6 : ls.length ≤ 6) : bnd (k + 46) ls.length w (dnP ls w) := fun x hx => by
  obtain ⟨e, he, rfl⟩ := List.mem_map.mp hx
  have he : e < w := List.mem_range.mp he
  refine ⟨?_, strip_bd fun y hy => ?_, he⟩
  · refine Nat.le_trans (strip_len _) ?_
    rw [List.length_map, sc_len]
    exact Nat.le_refl _
  · obtain ⟨c, hc, rfl⟩ := List.mem_map.mp hy
    exact (sc_bits hb hw hw6 hl6 e he c hc).1
theorem mapQ_getD {l : List Rat} {i : Nat} (h : i < l.length) : (l.map Qd).getD i .non = Qd (l.getD i 0) := by
  rw [List.getD_eq_getElem?_getD, List.getElem?_map, List.getElem?_eq_getElem h, getD_eq h]; rfl
theorem s_through (n : Nat) {ls : List (List Rat)} {k w : Nat} {t : τ} (hb : ∀ l ∈ ls, ∀ x ∈ l, bt 2 k x) (hw : ∀ l ∈ ls, l.length = w) (h0 : ls = [] → w = 0) (hw6 : w ≤ 6) (hl6 : ls.length ≤ 6) (h1k : 1 ≤ k) (hk : k ≤ 900) (hW : 1000 < W) {Q : R → τ → Prop}
    (q1 : (∃ e, e < w ∧ ¬ inte ls e) → Q (.v .non) t)
    (q2 : (∀ e, e < w → inte ls e) → ∀ d : Dn, Can d → (∀ e N, cf d e N = cf (dnP ls w) e N) → d.length ≤ w → bnd (k + 52) ls.length w d → Q (.v (dD d)) t) :
    K2 (run O W prog (n + 5) i_drawn_through [.tup (ls.map tQ)] t) Q := by
  refine run_ (fn := f_drawn_through) rfl rfl ?_
  unfold f_drawn_through b_drawn_through
  rw [x_seq]
  simp only [e_var, v_v, v_o, e_non, e_bl, e_int, e_str, e_nil, e_dnil, e_cons, con_, e_tup, ls_, e_lst, e_bin, e_neg, int_, e_nt, e_and, e_or, e_ife, e_cmp, e_isc, e_call, e_pick, pick_, e_b1, e_b2, e_isin, e_ix, e_slc, e_rng1, e_rng2, e_enm, e_zp, zp_l, zp_t, e_comp, turn_, oc_s, oc_n, cmp_nil, x_asg, x_par, x_sto, sto_, x_app, app_, x_ext, ext_, x_ex, x_pop, pop_, x_popj, x_ret, ret_v, ret_o, ret_k, x_ifs, x_brk, x_cnt, x_pas, sq_b, sq_c, sq_r, x_seq, forB_, x_fr, whlC_, x_whl, okK_some, okK_ite, okK_map, okK_bind, trK_t, trK_f, trK_map, K2_some, K3_some, frz, bindT, wipe, R.d_v, R.d_o, R.d_k, R.st_v, R.st_o, R.st_k, binD, cmpD, truth, isinD, ix_d, ix_l, ix_t, get_d, e_get, e_rev, e_scons, x_par3, aI0, aI1, b1_len_d, b1_int, b1_intb, b1_sorted_d, partD, slcD, b1_len_l, b1_len_t, b1_len_s, b1_abs, b1_all, b1_any, b1_sum, b1_tup_l, b1_tup_t, b1_lst_l, b1_lst_t, b1_max, b1_min, b1_sorted, b2D, iscD, items, begin_, List.map_cons, List.map_nil, List.replicate_succ, List.replicate_zero, List.nil_append, List.cons_append, List.getElem?_cons_zero, List.getElem?_cons_succ, List.set_cons_zero, List.set_cons_succ, Option.bind_some, Option.map_some, Nat.reduceSub, Nat.reduceAdd, Int.toNat_natCast, Bool.not_false, Bool.not_true, okK_none, List.length_map]
  refine ⟨by rw [sizeLine_eq]; omega, ?_⟩
  refine cmp_map (fun d => match d with | .tup ds => lQ (pt (ds.map qd)) | _ => .non) _ _ (fun d hd => ?_) ?_
  · obtain ⟨l, hl, rfl⟩ := List.mem_map.mp hd
    simp only [e_var, v_v, v_o, e_non, e_bl, e_int, e_str, e_nil, e_dnil, e_cons, con_, e_tup, ls_, e_lst, e_bin, e_neg, int_, e_nt, e_and, e_or, e_ife, e_cmp, e_isc, e_call, e_pick, pick_, e_b1, e_b2, e_isin, e_ix, e_slc, e_rng1, e_rng2, e_enm, e_zp, zp_l, zp_t, e_comp, turn_, oc_s, oc_n, cmp_nil, cmp_cons, x_asg, x_par, x_sto, sto_, x_app, app_, x_ext, ext_, x_ex, x_pop, pop_, x_popj, x_ret, ret_v, ret_o, ret_k, x_ifs, x_brk, x_cnt, x_pas, sq_n, sq_b, sq_c, sq_r, x_seq, forB_, x_fr, whlC_, x_whl, okK_some, okK_ite, okK_map, okK_bind, trK_t, trK_f, trK_map, K2_some, K3_some, frz, bindT, wipe, R.d_v, R.d_o, R.d_k, R.st_v, R.st_o, R.st_k, binD, cmpD, truth, isinD, ix_d, ix_l, ix_t, get_d, e_get, e_rev, e_scons, x_par3, aI0, aI1, b1_len_d, b1_int, b1_intb, b1_sorted_d, partD, slcD, b1_len_l, b1_len_t, b1_len_s, b1_abs, b1_all, b1_any, b1_sum, b1_tup_l, b1_tup_t, b1_lst_l, b1_lst_t, b1_max, b1_min, b1_sorted, b2D, iscD, items, begin_, List.map_cons, List.map_nil, List.replicate_succ, List.replicate_zero, List.nil_append, List.cons_append, List.getElem?_cons_zero, List.getElem?_cons_succ, List.set_cons_zero, List.set_cons_succ, Option.bind_some, Option.map_some, Nat.reduceSub, Nat.reduceAdd, Int.toNat_natCast, Bool.not_false, Bool.not_true, okK_none]
    refine s_powers n (.inr rfl) (hb l hl) h1k (by rw [hw l hl]; exact hw6) (by omega) hW ?_
    simp only [e_var, v_v, v_o, e_non, e_bl, e_int, e_str, e_nil, e_dnil, e_cons, con_, e_tup, ls_, e_lst, e_bin, e_neg, int_, e_nt, e_and, e_or, e_ife, e_cmp, e_isc, e_call, e_pick, pick_, e_b1, e_b2, e_isin, e_ix, e_slc, e_rng1, e_rng2, e_enm, e_zp, zp_l, zp_t, e_comp, turn_, oc_s, oc_n, cmp_nil, cmp_cons, x_asg, x_par, x_sto, sto_, x_app, app_, x_ext, ext_, x_ex, x_pop, pop_, x_popj, x_ret, ret_v, ret_o, ret_k, x_ifs, x_brk, x_cnt, x_pas, sq_n, sq_b, sq_c, sq_r, x_seq, forB_, x_fr, whlC_, x_whl, okK_some, okK_ite, okK_map, okK_bind, trK_t, trK_f, trK_map, K2_some, K3_some, frz, bindT, wipe, R.d_v, R.d_o, R.d_k, R.st_v, R.st_o, R.st_k, binD, cmpD, truth, isinD, ix_d, ix_l, ix_t, get_d, e_get, e_rev, e_scons, x_par3, aI0, aI1, b1_len_d, b1_int, b1_intb, b1_sorted_d, partD, slcD, b1_len_l, b1_len_t, b1_len_s, b1_abs, b1_all, b1_any, b1_sum, b1_tup_l, b1_tup_t, b1_lst_l, b1_lst_t, b1_max, b1_min, b1_sorted, b2D, iscD, items, begin_, List.map_cons, List.map_nil, List.replicate_succ, List.replicate_zero, List.nil_append, List.cons_append, List.getElem?_cons_zero, List.getElem?_cons_succ, List.set_cons_zero, List.set_cons_succ, Option.bind_some, Option.map_some, Nat.reduceSub, Nat.reduceAdd, Int.toNat_natCast, Bool.not_false, Bool.not_true, okK_none]
    refine ⟨?_, trivial⟩
    rw [List.map_map, show (qd ∘ Qd) = id from funext qd_Q, List.map_id]
  · have e1 : (ls.map tQ).map (fun d => match d with | .tup ds => lQ (pt (ds.map qd)) | _ => .non) = (ls.map pt).map lQ := by
      rw [List.map_map, List.map_map]
      refine List.map_congr_left fun l _ => ?_
      simp only [Function.comp, List.map_map]
      rw [show (qd ∘ Qd) = id from funext qd_Q, List.map_id]
    rw [e1, sq_n, x_seq]
    simp only [e_var, v_v, v_o, e_non, e_bl, e_int, e_str, e_nil, e_dnil, e_cons, con_, e_tup, ls_, e_lst, e_bin, e_neg, int_, e_nt, e_and, e_or, e_ife, e_cmp, e_isc, e_call, e_pick, pick_, e_b1, e_b2, e_isin, e_ix, e_slc, e_rng1, e_rng2, e_enm, e_zp, zp_l, zp_t, e_comp, turn_, oc_s, oc_n, cmp_nil, x_asg, x_par, x_sto, sto_, x_app, app_, x_ext, ext_, x_ex, x_pop, pop_, x_popj, x_ret, ret_v, ret_o, ret_k, x_ifs, x_brk, x_cnt, x_pas, sq_b, sq_c, sq_r, x_seq, forB_, x_fr, whlC_, x_whl, okK_some, okK_ite, okK_map, okK_bind, trK_t, trK_f, trK_map, K2_some, K3_some, frz, bindT, wipe, R.d_v, R.d_o, R.d_k, R.st_v, R.st_o, R.st_k, binD, cmpD, truth, isinD, ix_d, ix_l, ix_t, get_d, e_get, e_rev, e_scons, x_par3, aI0, aI1, b1_len_d, b1_int, b1_intb, b1_sorted_d, partD, slcD, b1_len_l, b1_len_t, b1_len_s, b1_abs, b1_all, b1_any, b1_sum, b1_tup_l, b1_tup_t, b1_lst_l, b1_lst_t, b1_max, b1_min, b1_sorted, b2D, iscD, items, begin_, List.map_cons, List.map_nil, List.replicate_succ, List.replicate_zero, List.nil_append, List.cons_append, List.getElem?_cons_zero, List.getElem?_cons_succ, List.set_cons_zero, List.set_cons_succ, Option.bind_some, Option.map_some, Nat.reduceSub, Nat.reduceAdd, Int.toNat_natCast, Bool.not_false, Bool.not_true, okK_none, List.length_nil]
    refine ⟨Nat.zero_le _, ?_⟩
    rw [sq_n, x_seq]
    simp only [e_var, v_v, v_o, e_non, e_bl, e_int, e_str, e_nil, e_dnil, e_cons, con_, e_tup, ls_, e_lst, e_bin, e_neg, int_, e_nt, e_and, e_or, e_ife, e_cmp, e_isc, e_call, e_pick, pick_, e_b1, e_b2, e_isin, e_ix, e_slc, e_rng1, e_rng2, e_enm, e_zp, zp_l, zp_t, e_comp, turn_, oc_s, oc_n, cmp_nil, x_asg, x_par, x_sto, sto_, x_app, app_, x_ext, ext_, x_ex, x_pop, pop_, x_popj, x_ret, ret_v, ret_o, ret_k, x_ifs, x_brk, x_cnt, x_pas, sq_b, sq_c, sq_r, x_seq, forB_, x_fr, whlC_, x_whl, okK_some, okK_ite, okK_map, okK_bind, trK_t, trK_f, trK_map, K2_some, K3_some, frz, bindT, wipe, R.d_v, R.d_o, R.d_k, R.st_v, R.st_o, R.st_k, binD, cmpD, truth, isinD, ix_d, ix_l, ix_t, get_d, e_get, e_rev, e_scons, x_par3, aI0, aI1, b1_len_d, b1_int, b1_intb, b1_sorted_d, partD, slcD, b1_len_l, b1_len_t, b1_len_s, b1_abs, b1_all, b1_any, b1_sum, b1_tup_l, b1_tup_t, b1_lst_l, b1_lst_t, b1_max, b1_min, b1_sorted, b2D, iscD, items, begin_, List.map_cons, List.map_nil, List.replicate_succ, List.replicate_zero, List.nil_append, List.cons_append, List.getElem?_cons_zero, List.getElem?_cons_succ, List.set_cons_zero, List.set_cons_succ, Option.bind_some, Option.map_some, Nat.reduceSub, Nat.reduceAdd, Int.toNat_natCast, Bool.not_false, Bool.not_true, okK_none, eq_lQ_nil, List.length_nil]
    have goal : ∀ {A : Int → Prop}, A ((w : Nat) : Int) → (0 ≤ sizeLine ∧ trK (some !decide (ls.map pt = [])) (okK (L2.atI ((ls.map pt).map lQ) 0) fun d => okK (b1D .len d) fun r => intK r.d A) (A 0)) := fun {A} hk => by
      refine ⟨Nat.zero_le _, trK_b.mpr ⟨fun h => ?_, fun h => ?_⟩⟩
      · cases ls with
        | nil => simp at h
        | cons l r =>
          simp only [List.map_cons, aI0, okK_some, b1_len_l, List.length_map, pt_len, R.d_v, int_]
          rw [hw l (List.mem_cons_self ..)]
          exact hk
      · have : ls = [] := by simpa using h
        rw [h0 this] at hk
        exact hk
    refine goal ?_
    rw [Int.toNat_natCast]
    refine ⟨by constructor <;> omega, ?_⟩
    refine for_rng (fun i ρ t' => t' = t ∧ i ≤ w ∧ (∀ e, e < i → inte ls e) ∧ ∃ (y1 : R) (y3 y4 y5 y6 : Option R), (y1 = .o (.lst ((ls.map pt).map lQ)) ∨ y1 = .v (.lst ((ls.map pt).map lQ))) ∧ ρ = [some (.v (.tup (ls.map tQ))), some y1, some (.o (.lst ((dnP ls i).map pr))), y3, y4, y5, y6]) ⟨rfl, Nat.zero_le _, by simp, _, none, none, none, none, .inl rfl, rfl⟩ ?_ ?_
    · rintro i ρ t' hi ⟨rfl, _, hint, y1, y3, y4, y5, y6, hy1, rfl⟩
      have fz : ∀ (a b c d e f : Option R), frz [a, some y1, b, c, d, e, f] [1] = [a, some (.v (.lst ((ls.map pt).map lQ))), b, c, d, e, f] := fun a b c d e f => by
        rcases hy1 with rfl | rfl <;> rfl
      rw [show ((0 : Int) + (i : Nat)) = ((i : Nat) : Int) by omega, forB_]
      simp only [bindT, okK_some, List.set_cons_succ, List.set_cons_zero]
      rw [x_seq, x_asg, fz]
      simp only [e_var, v_v, v_o, e_non, e_bl, e_int, e_str, e_nil, e_dnil, e_cons, con_, e_tup, ls_, e_lst, e_bin, e_neg, int_, e_nt, e_and, e_or, e_ife, e_cmp, e_isc, e_call, e_pick, pick_, e_b1, e_b2, e_isin, e_ix, e_slc, e_rng1, e_rng2, e_enm, e_zp, zp_l, zp_t, e_comp, turn_, oc_s, oc_n, cmp_nil, x_asg, x_par, x_sto, sto_, x_app, app_, x_ext, ext_, x_ex, x_pop, pop_, x_popj, x_ret, ret_v, ret_o, ret_k, x_ifs, x_brk, x_cnt, x_pas, sq_b, sq_c, sq_r, x_seq, forB_, x_fr, whlC_, x_whl, okK_some, okK_ite, okK_map, okK_bind, trK_t, trK_f, trK_map, K2_some, K3_some, frz, bindT, wipe, R.d_v, R.d_o, R.d_k, R.st_v, R.st_o, R.st_k, binD, cmpD, truth, isinD, ix_d, ix_l, ix_t, get_d, e_get, e_rev, e_scons, x_par3, aI0, aI1, b1_len_d, b1_int, b1_intb, b1_sorted_d, partD, slcD, b1_len_l, b1_len_t, b1_len_s, b1_abs, b1_all, b1_any, b1_sum, b1_tup_l, b1_tup_t, b1_lst_l, b1_lst_t, b1_max, b1_min, b1_sorted, b2D, iscD, items, begin_, List.map_cons, List.map_nil, List.replicate_succ, List.replicate_zero, List.nil_append, List.cons_append, List.getElem?_cons_zero, List.getElem?_cons_succ, List.set_cons_zero, List.set_cons_succ, Option.bind_some, Option.map_some, Nat.reduceSub, Nat.reduceAdd, Int.toNat_natCast, Bool.not_false, Bool.not_true, okK_none, List.length_map]
      refine ⟨by rw [sizeLine_eq]; omega, ?_⟩
      refine cmp_map (fun d => match d with | .lst ds => ds.getD i .non | _ => .non) _ _ (fun d hd => ?_) ?_
      · obtain ⟨l', hl', rfl⟩ := List.mem_map.mp hd
        obtain ⟨l, hl, rfl⟩ := List.mem_map.mp hl'
        have hlt : i < (pt l).length := by rw [pt_len, hw l hl]; exact hi
        simp only [e_var, v_v, v_o, e_non, e_bl, e_int, e_str, e_nil, e_dnil, e_cons, con_, e_tup, ls_, e_lst, e_bin, e_neg, int_, e_nt, e_and, e_or, e_ife, e_cmp, e_isc, e_call, e_pick, pick_, e_b1, e_b2, e_isin, e_ix, e_slc, e_rng1, e_rng2, e_enm, e_zp, zp_l, zp_t, e_comp, turn_, oc_s, oc_n, cmp_nil, cmp_cons, x_asg, x_par, x_sto, sto_, x_app, app_, x_ext, ext_, x_ex, x_pop, pop_, x_popj, x_ret, ret_v, ret_o, ret_k, x_ifs, x_brk, x_cnt, x_pas, sq_n, sq_b, sq_c, sq_r, x_seq, forB_, x_fr, whlC_, x_whl, okK_some, okK_ite, okK_map, okK_bind, trK_t, trK_f, trK_map, K2_some, K3_some, frz, bindT, wipe, R.d_v, R.d_o, R.d_k, R.st_v, R.st_o, R.st_k, binD, cmpD, truth, isinD, ix_d, ix_l, ix_t, get_d, e_get, e_rev, e_scons, x_par3, aI0, aI1, b1_len_d, b1_int, b1_intb, b1_sorted_d, partD, slcD, b1_len_l, b1_len_t, b1_len_s, b1_abs, b1_all, b1_any, b1_sum, b1_tup_l, b1_tup_t, b1_lst_l, b1_lst_t, b1_max, b1_min, b1_sorted, b2D, iscD, items, begin_, List.map_cons, List.map_nil, List.replicate_succ, List.replicate_zero, List.nil_append, List.cons_append, List.getElem?_cons_zero, List.getElem?_cons_succ, List.set_cons_zero, List.set_cons_succ, Option.bind_some, Option.map_some, Nat.reduceSub, Nat.reduceAdd, Int.toNat_natCast, Bool.not_false, Bool.not_true, okK_none]
        rw [atQ hlt, okK_some]
        refine ⟨?_, trivial⟩
        rw [mapQ_getD hlt]
      · have e2 : ((ls.map pt).map lQ).map (fun d => match d with | .lst ds => ds.getD i .non | _ => .non) = (col ls i).map Qd := by
          rw [List.map_map, List.map_map, col, List.map_map]
          refine List.map_congr_left fun l hl => ?_
          have hlt : i < (pt l).length := by rw [pt_len, hw l hl]; exact hi
          exact mapQ_getD hlt
        rw [e2]
        have cl : (col ls i).length = ls.length := by rw [col, List.length_map]
        refine s_steps (n + 1) (.inl rfl) (col_bt hb hw hw6 i hi) (by omega) (Nat.le_trans (show 1440 ≤ 2 ^ 40 by decide) (pow_le2 (by omega))) (by omega) (by omega) hW ?_
        rw [cl]
        have hS : stQ ls.length (col ls i) = sc ls i := rfl
        rw [hS]
        have sl := sc_len ls i
        have sb := sc_bits hb hw hw6 hl6 i hi
        simp only [e_var, v_v, v_o, e_non, e_bl, e_int, e_str, e_nil, e_dnil, e_cons, con_, e_tup, ls_, e_lst, e_bin, e_neg, int_, e_nt, e_and, e_or, e_ife, e_cmp, e_isc, e_call, e_pick, pick_, e_b1, e_b2, e_isin, e_ix, e_slc, e_rng1, e_rng2, e_enm, e_zp, zp_l, zp_t, e_comp, turn_, oc_s, oc_n, cmp_nil, x_asg, x_par, x_sto, sto_, x_app, app_, x_ext, ext_, x_ex, x_pop, pop_, x_popj, x_ret, ret_v, ret_o, ret_k, x_ifs, x_brk, x_cnt, x_pas, sq_b, sq_c, sq_r, x_seq, forB_, x_fr, whlC_, x_whl, okK_some, okK_ite, okK_map, okK_bind, trK_t, trK_f, trK_map, K2_some, K3_some, frz, bindT, wipe, R.d_v, R.d_o, R.d_k, R.st_v, R.st_o, R.st_k, binD, cmpD, truth, isinD, ix_d, ix_l, ix_t, get_d, e_get, e_rev, e_scons, x_par3, aI0, aI1, b1_len_d, b1_int, b1_intb, b1_sorted_d, partD, slcD, b1_len_l, b1_len_t, b1_len_s, b1_abs, b1_all, b1_any, b1_sum, b1_tup_l, b1_tup_t, b1_lst_l, b1_lst_t, b1_max, b1_min, b1_sorted, b2D, iscD, items, begin_, List.map_cons, List.map_nil, List.replicate_succ, List.replicate_zero, List.nil_append, List.cons_append, List.getElem?_cons_zero, List.getElem?_cons_succ, List.set_cons_zero, List.set_cons_succ, Option.bind_some, Option.map_some, Nat.reduceSub, Nat.reduceAdd, Int.toNat_natCast, Bool.not_false, Bool.not_true, okK_none]
        rw [sq_n, x_seq]
        simp only [e_var, v_v, v_o, e_non, e_bl, e_int, e_str, e_nil, e_dnil, e_cons, con_, e_tup, ls_, e_lst, e_bin, e_neg, int_, e_nt, e_and, e_or, e_ife, e_cmp, e_isc, e_call, e_pick, pick_, e_b1, e_b2, e_isin, e_ix, e_slc, e_rng1, e_rng2, e_enm, e_zp, zp_l, zp_t, e_comp, turn_, oc_s, oc_n, cmp_nil, x_asg, x_par, x_sto, sto_, x_app, app_, x_ext, ext_, x_ex, x_pop, pop_, x_popj, x_ret, ret_v, ret_o, ret_k, x_ifs, x_brk, x_cnt, x_pas, sq_b, sq_c, sq_r, x_seq, forB_, x_fr, whlC_, x_whl, okK_some, okK_ite, okK_map, okK_bind, trK_t, trK_f, trK_map, K2_some, K3_some, frz, bindT, wipe, R.d_v, R.d_o, R.d_k, R.st_v, R.st_o, R.st_k, binD, cmpD, truth, isinD, ix_d, ix_l, ix_t, get_d, e_get, e_rev, e_scons, x_par3, aI0, aI1, b1_len_d, b1_int, b1_intb, b1_sorted_d, partD, slcD, b1_len_l, b1_len_t, b1_len_s, b1_abs, b1_all, b1_any, b1_sum, b1_tup_l, b1_tup_t, b1_lst_l, b1_lst_t, b1_max, b1_min, b1_sorted, b2D, iscD, items, begin_, List.map_cons, List.map_nil, List.replicate_succ, List.replicate_zero, List.nil_append, List.cons_append, List.getElem?_cons_zero, List.getElem?_cons_succ, List.set_cons_zero, List.set_cons_succ, Option.bind_some, Option.map_some, Nat.reduceSub, Nat.reduceAdd, Int.toNat_natCast, Bool.not_false, Bool.not_true, okK_none, List.length_map]
        refine ⟨by rw [sizeLine_eq]; omega, ?_⟩
        refine cmp_map (fun d => .bl (decide ((qd d).den = 1))) _ _ (fun d hd => ?_) ?_
        · obtain ⟨c, hc, rfl⟩ := List.mem_map.mp hd
          simp only [e_var, v_v, v_o, e_non, e_bl, e_int, e_str, e_nil, e_dnil, e_cons, con_, e_tup, ls_, e_lst, e_bin, e_neg, int_, e_nt, e_and, e_or, e_ife, e_cmp, e_isc, e_call, e_pick, pick_, e_b1, e_b2, e_isin, e_ix, e_slc, e_rng1, e_rng2, e_enm, e_zp, zp_l, zp_t, e_comp, turn_, oc_s, oc_n, cmp_nil, cmp_cons, x_asg, x_par, x_sto, sto_, x_app, app_, x_ext, ext_, x_ex, x_pop, pop_, x_popj, x_ret, ret_v, ret_o, ret_k, x_ifs, x_brk, x_cnt, x_pas, sq_n, sq_b, sq_c, sq_r, x_seq, forB_, x_fr, whlC_, x_whl, okK_some, okK_ite, okK_map, okK_bind, trK_t, trK_f, trK_map, K2_some, K3_some, frz, bindT, wipe, R.d_v, R.d_o, R.d_k, R.st_v, R.st_o, R.st_k, binD, cmpD, truth, isinD, ix_d, ix_l, ix_t, get_d, e_get, e_rev, e_scons, x_par3, aI0, aI1, b1_len_d, b1_int, b1_intb, b1_sorted_d, partD, slcD, b1_len_l, b1_len_t, b1_len_s, b1_abs, b1_all, b1_any, b1_sum, b1_tup_l, b1_tup_t, b1_lst_l, b1_lst_t, b1_max, b1_min, b1_sorted, b2D, iscD, items, begin_, List.map_cons, List.map_nil, List.replicate_succ, List.replicate_zero, List.nil_append, List.cons_append, List.getElem?_cons_zero, List.getElem?_cons_succ, List.set_cons_zero, List.set_cons_succ, Option.bind_some, Option.map_some, Nat.reduceSub, Nat.reduceAdd, Int.toNat_natCast, Bool.not_false, Bool.not_true, okK_none, eq_int, qd_Q]
          refine ⟨?_, trivial⟩
          by_cases h : c.den = 1
          · simp [h]
          · have : ¬ ((c.den : Int) = 1) := by omega
            simp [h, this]
        · have e3 : ((sc ls i).map Qd).map (fun d => D.bl (decide ((qd d).den = 1))) = ((sc ls i).map fun c => decide (c.den = 1)).map .bl := by
            rw [List.map_map, List.map_map]
            refine List.map_congr_left fun c _ => ?_
            simp only [Function.comp, qd_Q]
          rw [e3, boolsD_I]
          simp only [e_var, v_v, v_o, e_non, e_bl, e_int, e_str, e_nil, e_dnil, e_cons, con_, e_tup, ls_, e_lst, e_bin, e_neg, int_, e_nt, e_and, e_or, e_ife, e_cmp, e_isc, e_call, e_pick, pick_, e_b1, e_b2, e_isin, e_ix, e_slc, e_rng1, e_rng2, e_enm, e_zp, zp_l, zp_t, e_comp, turn_, oc_s, oc_n, cmp_nil, x_asg, x_par, x_sto, sto_, x_app, app_, x_ext, ext_, x_ex, x_pop, pop_, x_popj, x_ret, ret_v, ret_o, ret_k, x_ifs, x_brk, x_cnt, x_pas, sq_b, sq_c, sq_r, x_seq, forB_, x_fr, whlC_, x_whl, okK_some, okK_ite, okK_map, okK_bind, trK_t, trK_f, trK_map, K2_some, K3_some, frz, bindT, wipe, R.d_v, R.d_o, R.d_k, R.st_v, R.st_o, R.st_k, binD, cmpD, truth, isinD, ix_d, ix_l, ix_t, get_d, e_get, e_rev, e_scons, x_par3, aI0, aI1, b1_len_d, b1_int, b1_intb, b1_sorted_d, partD, slcD, b1_len_l, b1_len_t, b1_len_s, b1_abs, b1_all, b1_any, b1_sum, b1_tup_l, b1_tup_t, b1_lst_l, b1_lst_t, b1_max, b1_min, b1_sorted, b2D, iscD, items, begin_, List.map_cons, List.map_nil, List.replicate_succ, List.replicate_zero, List.nil_append, List.cons_append, List.getElem?_cons_zero, List.getElem?_cons_succ, List.set_cons_zero, List.set_cons_succ, Option.bind_some, Option.map_some, Nat.reduceSub, Nat.reduceAdd, Int.toNat_natCast, Bool.not_false, Bool.not_true, okK_none]
          refine trK_b.mpr ⟨fun h => ?_, fun h => ?_⟩
          · refine q1 ⟨i, hi, fun hin => ?_⟩
            have : ((sc ls i).map fun c => decide (c.den = 1)).all id = true := by
              rw [List.all_map, List.all_eq_true]
              intro c hc
              exact decide_eq_true (hin c hc)
            rw [this] at h
            cases h
          · have hin : inte ls i := fun c hc => by
              have h' : ((sc ls i).map fun c => decide (c.den = 1)).all id = true := by simpa using h
              rw [List.all_map, List.all_eq_true] at h'
              exact of_decide_eq_true (h' c hc)
            rw [sq_n]
            simp only [e_var, v_v, v_o, e_non, e_bl, e_int, e_str, e_nil, e_dnil, e_cons, con_, e_tup, ls_, e_lst, e_bin, e_neg, int_, e_nt, e_and, e_or, e_ife, e_cmp, e_isc, e_call, e_pick, pick_, e_b1, e_b2, e_isin, e_ix, e_slc, e_rng1, e_rng2, e_enm, e_zp, zp_l, zp_t, e_comp, turn_, oc_s, oc_n, cmp_nil, x_asg, x_par, x_sto, sto_, x_app, app_, x_ext, ext_, x_ex, x_pop, pop_, x_popj, x_ret, ret_v, ret_o, ret_k, x_ifs, x_brk, x_cnt, x_pas, sq_b, sq_c, sq_r, x_seq, forB_, x_fr, whlC_, x_whl, okK_some, okK_ite, okK_map, okK_bind, trK_t, trK_f, trK_map, K2_some, K3_some, frz, bindT, wipe, R.d_v, R.d_o, R.d_k, R.st_v, R.st_o, R.st_k, binD, cmpD, truth, isinD, ix_d, ix_l, ix_t, get_d, e_get, e_rev, e_scons, x_par3, aI0, aI1, b1_len_d, b1_int, b1_intb, b1_sorted_d, partD, slcD, b1_len_l, b1_len_t, b1_len_s, b1_abs, b1_all, b1_any, b1_sum, b1_tup_l, b1_tup_t, b1_lst_l, b1_lst_t, b1_max, b1_min, b1_sorted, b2D, iscD, items, begin_, List.map_cons, List.map_nil, List.replicate_succ, List.replicate_zero, List.nil_append, List.cons_append, List.getElem?_cons_zero, List.getElem?_cons_succ, List.set_cons_zero, List.set_cons_succ, Option.bind_some, Option.map_some, Nat.reduceSub, Nat.reduceAdd, Int.toNat_natCast, Bool.not_false, Bool.not_true, okK_none, List.length_map]
            refine ⟨by rw [sizeLine_eq]; omega, ?_⟩
            refine cmp_map (fun d => .int (qd d).num) _ _ (fun d hd => ?_) ?_
            · obtain ⟨c, hc, rfl⟩ := List.mem_map.mp hd
              simp only [e_var, v_v, v_o, e_non, e_bl, e_int, e_str, e_nil, e_dnil, e_cons, con_, e_tup, ls_, e_lst, e_bin, e_neg, int_, e_nt, e_and, e_or, e_ife, e_cmp, e_isc, e_call, e_pick, pick_, e_b1, e_b2, e_isin, e_ix, e_slc, e_rng1, e_rng2, e_enm, e_zp, zp_l, zp_t, e_comp, turn_, oc_s, oc_n, cmp_nil, cmp_cons, x_asg, x_par, x_sto, sto_, x_app, app_, x_ext, ext_, x_ex, x_pop, pop_, x_popj, x_ret, ret_v, ret_o, ret_k, x_ifs, x_brk, x_cnt, x_pas, sq_n, sq_b, sq_c, sq_r, x_seq, forB_, x_fr, whlC_, x_whl, okK_some, okK_ite, okK_map, okK_bind, trK_t, trK_f, trK_map, K2_some, K3_some, frz, bindT, wipe, R.d_v, R.d_o, R.d_k, R.st_v, R.st_o, R.st_k, binD, cmpD, truth, isinD, ix_d, ix_l, ix_t, get_d, e_get, e_rev, e_scons, x_par3, aI0, aI1, b1_len_d, b1_int, b1_intb, b1_sorted_d, partD, slcD, b1_len_l, b1_len_t, b1_len_s, b1_abs, b1_all, b1_any, b1_sum, b1_tup_l, b1_tup_t, b1_lst_l, b1_lst_t, b1_max, b1_min, b1_sorted, b2D, iscD, items, begin_, List.map_cons, List.map_nil, List.replicate_succ, List.replicate_zero, List.nil_append, List.cons_append, List.getElem?_cons_zero, List.getElem?_cons_succ, List.set_cons_zero, List.set_cons_succ, Option.bind_some, Option.map_some, Nat.reduceSub, Nat.reduceAdd, Int.toNat_natCast, Bool.not_false, Bool.not_true, okK_none, qd_Q]
              exact ⟨trivial, trivial⟩
            · have e4 : ((sc ls i).map Qd).map (fun d => D.int (qd d).num) = I ((sc ls i).map fun c => c.num) := by
                rw [List.map_map, I, List.map_map]
                refine List.map_congr_left fun c _ => ?_
                simp only [Function.comp, qd_Q]
              rw [e4]
              refine s_row_of (n + 3) (by rw [List.length_map]; omega) ?_
              simp only [e_var, v_v, v_o, e_non, e_bl, e_int, e_str, e_nil, e_dnil, e_cons, con_, e_tup, ls_, e_lst, e_bin, e_neg, int_, e_nt, e_and, e_or, e_ife, e_cmp, e_isc, e_call, e_pick, pick_, e_b1, e_b2, e_isin, e_ix, e_slc, e_rng1, e_rng2, e_enm, e_zp, zp_l, zp_t, e_comp, turn_, oc_s, oc_n, cmp_nil, x_asg, x_par, x_sto, sto_, x_app, app_, x_ext, ext_, x_ex, x_pop, pop_, x_popj, x_ret, ret_v, ret_o, ret_k, x_ifs, x_brk, x_cnt, x_pas, sq_b, sq_c, sq_r, x_seq, forB_, x_fr, whlC_, x_whl, okK_some, okK_ite, okK_map, okK_bind, trK_t, trK_f, trK_map, K2_some, K3_some, frz, bindT, wipe, R.d_v, R.d_o, R.d_k, R.st_v, R.st_o, R.st_k, binD, cmpD, truth, isinD, ix_d, ix_l, ix_t, get_d, e_get, e_rev, e_scons, x_par3, aI0, aI1, b1_len_d, b1_int, b1_intb, b1_sorted_d, partD, slcD, b1_len_l, b1_len_t, b1_len_s, b1_abs, b1_all, b1_any, b1_sum, b1_tup_l, b1_tup_t, b1_lst_l, b1_lst_t, b1_max, b1_min, b1_sorted, b2D, iscD, items, begin_, List.map_cons, List.map_nil, List.replicate_succ, List.replicate_zero, List.nil_append, List.cons_append, List.getElem?_cons_zero, List.getElem?_cons_succ, List.set_cons_zero, List.set_cons_succ, Option.bind_some, Option.map_some, Nat.reduceSub, Nat.reduceAdd, Int.toNat_natCast, Bool.not_false, Bool.not_true, okK_none]
              have dl : (dnP ls i).length = i := by rw [dnP, List.length_map, List.length_range]
              have e5 : dnP ls (i + 1) = dnP ls i ++ [(i, rowOf ls i)] := by
                unfold dnP
                rw [List.range_succ, List.map_append]
                rfl
              have hint2 : ∀ e, e < i + 1 → inte ls e := fun e he => by
                by_cases z : e = i
                · rw [z]; exact hin
                · exact hint e (by omega)
              rw [e5, List.map_append]
              exact ⟨(by simp only [List.length_cons, List.length_nil, List.length_append, List.length_map, sizeLine_eq]; omega), (by rw [dl, sizeLine_eq]; omega), trivial, by omega, hint2, _, _, _, _, _, .inr rfl, rfl⟩
    · rintro ρ t' ⟨rfl, _, hint, y1, y3, y4, y5, y6, hy1, rfl⟩
      rw [sq_n]
      simp only [e_var, v_v, v_o, e_non, e_bl, e_int, e_str, e_nil, e_dnil, e_cons, con_, e_tup, ls_, e_lst, e_bin, e_neg, int_, e_nt, e_and, e_or, e_ife, e_cmp, e_isc, e_call, e_pick, pick_, e_b1, e_b2, e_isin, e_ix, e_slc, e_rng1, e_rng2, e_enm, e_zp, zp_l, zp_t, e_comp, turn_, oc_s, oc_n, cmp_nil, x_asg, x_par, x_sto, sto_, x_app, app_, x_ext, ext_, x_ex, x_pop, pop_, x_popj, x_ret, ret_v, ret_o, ret_k, x_ifs, x_brk, x_cnt, x_pas, sq_b, sq_c, sq_r, x_seq, forB_, x_fr, whlC_, x_whl, okK_some, okK_ite, okK_map, okK_bind, trK_t, trK_f, trK_map, K2_some, K3_some, frz, bindT, wipe, R.d_v, R.d_o, R.d_k, R.st_v, R.st_o, R.st_k, binD, cmpD, truth, isinD, ix_d, ix_l, ix_t, get_d, e_get, e_rev, e_scons, x_par3, aI0, aI1, b1_len_d, b1_int, b1_intb, b1_sorted_d, partD, slcD, b1_len_l, b1_len_t, b1_len_s, b1_abs, b1_all, b1_any, b1_sum, b1_tup_l, b1_tup_t, b1_lst_l, b1_lst_t, b1_max, b1_min, b1_sorted, b2D, iscD, items, begin_, List.map_cons, List.map_nil, List.replicate_succ, List.replicate_zero, List.nil_append, List.cons_append, List.getElem?_cons_zero, List.getElem?_cons_succ, List.set_cons_zero, List.set_cons_succ, Option.bind_some, Option.map_some, Nat.reduceSub, Nat.reduceAdd, Int.toNat_natCast, Bool.not_false, Bool.not_true, okK_none]
      have dl : (dnP ls w).length = w := by rw [dnP, List.length_map, List.length_range]
      refine s_dof (n + 1) (.inl rfl) (dnP_bnd hb hw hw6 hl6) (by omega) (by omega) hW fun d h1 h2 h3 h4 => ?_
      simp only [e_var, v_v, v_o, e_non, e_bl, e_int, e_str, e_nil, e_dnil, e_cons, con_, e_tup, ls_, e_lst, e_bin, e_neg, int_, e_nt, e_and, e_or, e_ife, e_cmp, e_isc, e_call, e_pick, pick_, e_b1, e_b2, e_isin, e_ix, e_slc, e_rng1, e_rng2, e_enm, e_zp, zp_l, zp_t, e_comp, turn_, oc_s, oc_n, cmp_nil, x_asg, x_par, x_sto, sto_, x_app, app_, x_ext, ext_, x_ex, x_pop, pop_, x_popj, x_ret, ret_v, ret_o, ret_k, x_ifs, x_brk, x_cnt, x_pas, sq_b, sq_c, sq_r, x_seq, forB_, x_fr, whlC_, x_whl, okK_some, okK_ite, okK_map, okK_bind, trK_t, trK_f, trK_map, K2_some, K3_some, frz, bindT, wipe, R.d_v, R.d_o, R.d_k, R.st_v, R.st_o, R.st_k, binD, cmpD, truth, isinD, ix_d, ix_l, ix_t, get_d, e_get, e_rev, e_scons, x_par3, aI0, aI1, b1_len_d, b1_int, b1_intb, b1_sorted_d, partD, slcD, b1_len_l, b1_len_t, b1_len_s, b1_abs, b1_all, b1_any, b1_sum, b1_tup_l, b1_tup_t, b1_lst_l, b1_lst_t, b1_max, b1_min, b1_sorted, b2D, iscD, items, begin_, List.map_cons, List.map_nil, List.replicate_succ, List.replicate_zero, List.nil_append, List.cons_append, List.getElem?_cons_zero, List.getElem?_cons_succ, List.set_cons_zero, List.set_cons_succ, Option.bind_some, Option.map_some, Nat.reduceSub, Nat.reduceAdd, Int.toNat_natCast, Bool.not_false, Bool.not_true, okK_none]
      exact q2 hint d h1 h2 (by omega) h4
end PyI

set_option Elab.async false
set_option linter.all false
set_option maxRecDepth 100000
set_option maxHeartbeats 8000000
/-! a drawn form's table -/
namespace PyI
open PySem PySem.Spec PyProof.Rows Rw PyData
theorem val_bits {a : Dn} {c l w N m T : Nat} {t : Rat} (ha : bnd c l w a) (hl : l ≤ 32) (hN : N ≤ 2 ^ m) (hT : bits T t) : bits (a.length * (T * w + (5 + c + m * l) + 1)) (val a N t) := by
  induction a with
  | nil => rw [val_nil]; exact ⟨Nat.zero_le _, by show 1 ≤ _; exact Nat.one_le_two_pow⟩
  | cons x a ih =>
    have ih := ih fun y hy => ha y (List.mem_cons_of_mem _ hy)
    obtain ⟨a1, a2, a3⟩ := ha x (List.mem_cons_self ..)
    have hz := at_bits a2 (by omega) hN (Nat.le_refl x.2.length)
    have hz' : bits (5 + c + m * l) ((at_ x.2 0 N : Int) : Rat) := (bits_int hz).mono (by have := Nat.mul_le_mul_left m a1; omega)
    have hp : bits (T * w) (t ^ x.1) := (bits_pow hT x.1).mono (Nat.mul_le_mul_left _ (by omega))
    rw [val_cons, List.length_cons, Nat.succ_mul]
    exact (bits_add (bits_mul hp hz') ih).mono (by omega)
theorem kq_int (i : Nat) : kq i = (((i + 1 : Nat) : Int) : Rat) := rfl
theorem val_int (N i : Nat) : ∀ a : Dn, ∃ z : Int, val a N (kq i) = (z : Rat)
  | [] => ⟨0, rfl⟩
  | x :: a => by
    obtain ⟨z, hz⟩ := val_int N i a
    refine ⟨((i + 1 : Nat) : Int) ^ x.1 * at_ x.2 0 N + z, ?_⟩
    rw [val_cons, hz, Rat.intCast_add, Rat.intCast_mul, rcast_pow, kq_int]
def tb (a : Dn) (wide long : Nat) : List (List Rat) := (List.range long).map fun n => (List.range wide).map fun i => val a n (kq i)
theorem ev_snoc (x c : Rat) : ∀ l : List Rat, Rw.ev (l ++ [c]) x = Rw.ev l x + x ^ l.length * c
  | [] => by
    show c + x * 0 = 0 + x ^ 0 * c
    rw [Rat.pow_zero]; grind
  | d :: l => by
    rw [List.cons_append, Rw.ev, ev_snoc x c l, Rw.ev, List.length_cons, Rat.pow_succ]; grind
theorem ev_vs (t : Rat) (f : Nat → Int) : ∀ w, Rw.ev ((List.range w).map fun e => (f e : Rat)) t = vs t f w
  | 0 => rfl
  | w + 1 => by
    rw [List.range_succ, List.map_append, List.map_cons, List.map_nil, ev_snoc, ev_vs t f w, List.length_map, List.length_range]
    rfl
theorem pt_tb {a : Dn} {w : Nat} (h : ∀ x ∈ a, x.1 < w) (n : Nat) : pt ((List.range w).map fun i => val a n (kq i)) = (List.range w).map fun e => ((cf a e n : Int) : Rat) := by
  refine pt_uniq (by simp) fun i hi => ?_
  rw [List.length_map, List.length_range] at hi
  rw [ev_vs (kq i) (fun e => cf a e n) w, ← val_vs h]
  rw [List.getD_eq_getElem?_getD, List.getElem?_map, List.getElem?_range hi]
  rfl
theorem difQ_cast : ∀ l : List Int, difQ (l.map fun z => ((z : Int) : Rat)) = (dif l).map fun z => ((z : Int) : Rat)
  | [] => rfl
  | [_] => rfl
  | x :: y :: r => by
    have := difQ_cast (y :: r)
    simp only [List.map_cons] at this
    simp only [List.map_cons, difQ, dif, this, Rat.intCast_sub]
theorem stQ_cast : ∀ (n : Nat) (l : List Int), stQ n (l.map fun z => ((z : Int) : Rat)) = (thr n l).map fun z => ((z : Int) : Rat)
  | 0, _ => rfl
  | n + 1, [] => rfl
  | n + 1, x :: r => by
    have h := difQ_cast (x :: r)
    have := stQ_cast n (dif (x :: r))
    simp only [List.map_cons] at h
    simp only [List.map_cons, stQ, thr, h, this]
theorem col_tb {a : Dn} {wide long : Nat} (h : ∀ x ∈ a, x.1 < wide) (e : Nat) (he : e < wide) : col (tb a wide long) e = (tab (fun n => cf a e n) long 0).map fun z => ((z : Int) : Rat) := by
  unfold col tb
  rw [List.map_map, tab_map, List.map_map]
  refine List.map_congr_left fun n _ => ?_
  simp only [Function.comp, pt_tb h, Nat.zero_add]
  rw [List.getD_eq_getElem?_getD, List.getElem?_map, List.getElem?_range he]
  rfl
theorem sc_tb {a : Dn} {wide long : Nat} (h : ∀ x ∈ a, x.1 < wide) (e : Nat) (he : e < wide) : sc (tb a wide long) e = (thr long (tab (fun n => cf a e n) long 0)).map fun z => ((z : Int) : Rat) := by
  unfold sc
  rw [col_tb h e he, stQ_cast]
  congr 2
  simp [tb]
theorem inte_tb {a : Dn} {wide long : Nat} (h : ∀ x ∈ a, x.1 < wide) (e : Nat) (he : e < wide) : inte (tb a wide long) e := by
  intro c hc
  rw [sc_tb h e he] at hc
  obtain ⟨z, _, rfl⟩ := List.mem_map.mp hc
  rfl
theorem rowOf_tb {a : Dn} (ca : Can a) {wide long : Nat} (h : ∀ x ∈ a, x.1 < wide) (hl : ∀ x ∈ a, x.2.length ≤ long) (e : Nat) (he : e < wide) : rowOf (tb a wide long) e = strip ((kget a e).getD []) := by
  unfold rowOf
  rw [sc_tb h e he, List.map_map]
  have e1 : (thr long (tab (fun n => cf a e n) long 0)).map ((fun c : Rat => c.num) ∘ fun z : Int => (z : Rat)) = thr long (tab (fun n => cf a e n) long 0) := by
    rw [show ((fun c : Rat => c.num) ∘ fun z : Int => (z : Rat)) = id from rfl, List.map_id]
  rw [e1]
  have e2 : tab (fun n => cf a e n) long 0 = tab (at_ ((kget a e).getD []) 0) long 0 := tab_congr (fun i => (kget_cf ca.nodup e i).symm) _ _
  rw [e2]
  refine back ?_
  cases hk : kget a e with
  | none => exact Nat.zero_le _
  | some r => exact hl _ (kget_mem hk)
theorem cf_range (f : Nat → List Int) (e N : Nat) : ∀ w, cf ((List.range w).map fun e => (e, f e)) e N = if e < w then at_ (f e) 0 N else 0
  | 0 => by simp [cf]
  | w + 1 => by
    rw [List.range_succ, List.map_append, cf_app, cf_range f e N w, List.map_cons, List.map_nil, cf_cons, cf_nil]
    show _ + ((if w = e then at_ (f w) 0 N else 0) + 0) = _
    by_cases h : e < w
    · rw [if_pos h, if_neg (by omega), if_pos (by omega)]; omega
    · by_cases h2 : w = e
      · subst h2; rw [if_neg h, if_pos rfl, if_pos (by omega)]; omega
      · rw [if_neg h, if_neg h2, if_neg (by omega)]; omega
theorem dnP_tb {a : Dn} (ca : Can a) {wide long : Nat} (h : ∀ x ∈ a, x.1 < wide) (hl : ∀ x ∈ a, x.2.length ≤ long) (e N : Nat) : cf (dnP (tb a wide long) wide) e N = cf a e N := by
  unfold dnP
  rw [cf_range]
  by_cases he : e < wide
  · rw [if_pos he, rowOf_tb ca h hl e he, at_strip, kget_cf ca.nodup]
  · rw [if_neg he, cf_none fun x hx z => he (by rw [← z]; exact h x hx)]
/-- what goes through a table has its fractions -/
theorem nw_at : ∀ (r : List Int) (k i : Nat), nw (r.map fun z => ((z : Int) : Rat)) k i = ((at_ r k i : Int) : Rat)
  | [], _, _ => rfl
  | c :: r, k, i => by
    have : ((bc i k : Nat) : Rat) = ((b i k : Int) : Rat) := rfl
    rw [List.map_cons, nw, nw_at r (k + 1) i, this, at_, Rat.intCast_add, Rat.intCast_mul]
theorem int_num {c : Rat} (h : c.den = 1) : ((c.num : Int) : Rat) = c := by
  have := rat_nd c
  rw [h] at this
  have h1 : (((1 : Nat) : Int) : Rat) = 1 := rfl
  rw [h1] at this
  grind
theorem told_val {ls : List (List Rat)} {w : Nat} (hw : ∀ l ∈ ls, l.length = w) (hi : ∀ e, e < w → inte ls e) {d : Dn} (hd : ∀ e N, cf d e N = cf (dnP ls w) e N) {n : Nat} (hn : n < ls.length) {i : Nat} (hi2 : i < w) : val d n (kq i) = (ls.getD n []).getD i 0 := by
  have hl : (ls.getD n []) ∈ ls := by
    rw [List.getD_eq_getElem?_getD, List.getElem?_eq_getElem hn]; exact List.getElem_mem hn
  have hlen := hw _ hl
  have e1 : val d n (kq i) = val (dnP ls w) n (kq i) := val_ext hd n _
  rw [e1, val_vs (w := w) fun x hx => by
    obtain ⟨e, he, rfl⟩ := List.mem_map.mp hx
    exact List.mem_range.mp he]
  rw [← ev_vs, ← pt_ev (l := ls.getD n []) (i := i) (by omega)]
  congr 1
  have e2 : ∀ e, e < w → ((cf (dnP ls w) e n : Int) : Rat) = (pt (ls.getD n [])).getD e 0 := fun e he => by
    unfold dnP
    rw [cf_range, if_pos he, rowOf, at_strip, ← nw_at, List.map_map]
    have e3 : (sc ls e).map ((fun z : Int => (z : Rat)) ∘ fun c : Rat => c.num) = sc ls e := by
      have : ∀ l : List Rat, (∀ c ∈ l, c.den = 1) → l.map ((fun z : Int => (z : Rat)) ∘ fun c : Rat => c.num) = l := fun l => by
        induction l with
        | nil => intro _; rfl
        | cons c l ih =>
          intro h
          rw [List.map_cons, ih fun x hx => h x (List.mem_cons_of_mem _ hx)]
          congr 1
          exact int_num (h c (List.mem_cons_self ..))
      exact this _ (hi e he)
    rw [e3, sc, newton n (col ls e) ls.length (by rw [col, List.length_map]; exact hn) (by rw [col, List.length_map]; exact Nat.le_refl _)]
    unfold col
    rw [List.getD_eq_getElem?_getD, List.getElem?_map, List.getElem?_eq_getElem hn, List.getD_eq_getElem?_getD (l := ls), List.getElem?_eq_getElem hn]
    rfl
  refine List.ext_getElem (by rw [List.length_map, List.length_range, pt_len, hlen]) fun e h1 h2 => ?_
  rw [List.length_map, List.length_range] at h1
  rw [List.getElem_map, List.getElem_range, e2 e h1, getD_eq h2]
end PyI

set_option Elab.async false
set_option linter.all false
set_option maxRecDepth 100000
set_option maxHeartbeats 8000000
/-! the law's own equations -/
namespace PyI
open PySem PySem.Spec PyProof.Rows Rw PyData
variable {τ : Type} {O : Pk τ} {W : Nat}
abbrev row (A : List (List Rat)) (k : Nat) : List Rat := A.getD k []
abbrev ent (A : List (List Rat)) (k i : Nat) : Rat := (row A k).getD i 0
def rI (A : List (List Rat)) (i : Nat) : List Rat := (row A i).map fun x => x / ent A i i
def rK (A : List (List Rat)) (i k : Nat) : List Rat := List.zipWith (fun x y => x - ent A k i * y) (row A k) (rI A i)
def mid (m : Nat) (A : List (List Rat)) (i k : Nat) : List (List Rat) := (List.range m).map fun k' => if k' = i then rI A i else if k' < k then rK A i k' else row A k'
def A0 (ws : List Rat) : List (List Rat) := (List.range ws.length).map fun t => ((List.range ws.length).map fun e => ((((t + 1 : Nat) : Int) ^ e : Int) : Rat)) ++ [ws.getD t 0]
def gjA (ws : List Rat) : Nat → List (List Rat)
  | 0 => A0 ws
  | i + 1 => mid ws.length (gjA ws i) i ws.length
theorem row_mid {m : Nat} {A : List (List Rat)} {i k k' : Nat} (h : k' < m) : row (mid m A i k) k' = if k' = i then rI A i else if k' < k then rK A i k' else row A k' := by
  unfold row mid
  rw [List.getD_eq_getElem?_getD, List.getElem?_map, List.getElem?_range h]
  rfl
theorem mid_len (m : Nat) (A : List (List Rat)) (i k : Nat) : (mid m A i k).length = m := by unfold mid; rw [List.length_map, List.length_range]
/-- m rows of m + 1, not too great -/
structure Mt (m B : Nat) (A : List (List Rat)) : Prop where
  len : A.length = m
  row : ∀ k, k < m → (row A k).length = m + 1
  bit : ∀ k, k < m → ∀ x ∈ PyI.row A k, bits B x
theorem Mt.ent {m B : Nat} {A : List (List Rat)} (h : Mt m B A) {k i : Nat} (hk : k < m) (hi : i < m + 1) : bits B (ent A k i) := h.bit k hk _ (getD_mem (by rw [h.row k hk]; exact hi))
theorem rI_len {m B : Nat} {A : List (List Rat)} (h : Mt m B A) {i : Nat} (hi : i < m) : (rI A i).length = m + 1 := by rw [rI, List.length_map, h.row i hi]
theorem rK_len {m B : Nat} {A : List (List Rat)} (h : Mt m B A) {i k : Nat} (hi : i < m) (hk : k < m) : (rK A i k).length = m + 1 := by rw [rK, List.length_zipWith, h.row k hk, rI_len h hi]; omega
theorem q_div {x p : Rat} (hp : p ≠ 0) : x.den * p.num ≠ 0 ∧ Rat.divInt (x.num * p.den) (x.den * p.num) = x / p := by
  have hn : p.num ≠ 0 := fun z => hp (by
    rw [rat_nd p, z]
    have : ((0 : Int) : Rat) = 0 := rfl
    rw [this]; grind)
  refine ⟨Int.mul_ne_zero (den_neI x) hn, ?_⟩
  have e1 := rat_nd x
  have e2 := rat_nd p
  have d1 := den_ne x
  have d2 := den_ne p
  have hn' : ((p.num : Int) : Rat) ≠ 0 := fun z => hn (by exact_mod_cast z)
  rw [Rat.divInt_eq_div]
  simp only [Rat.intCast_mul]
  generalize (x.num : Rat) = a at *
  generalize (p.num : Rat) = b at *
  generalize ((x.den : Int) : Rat) = c at *
  generalize ((p.den : Int) : Rat) = d at *
  subst e1 e2
  grind
theorem bits_quot {x p : Rat} {B : Nat} (hx : bits B x) (hp : bits B p) (h0 : p ≠ 0) : bits (B + B) (x / p) := by
  obtain ⟨h1, h2⟩ := q_div (x := x) h0
  rw [← h2]
  exact bits_div h1 (mul_le2 hx.1 hp.den) (mul_le2 hx.den hp.1)
theorem q_el (x c y : Rat) : Rat.divInt (x.num * c.den * y.den - c.num * y.num * x.den) (x.den * c.den * y.den) = x - c * y := by
  have e1 := rat_nd x
  have e2 := rat_nd c
  have e3 := rat_nd y
  have d1 := den_ne x
  have d2 := den_ne c
  have d3 := den_ne y
  rw [Rat.divInt_eq_div]
  simp only [Rat.intCast_sub, Rat.intCast_mul]
  generalize (x.num : Rat) = a at *
  generalize (c.num : Rat) = b at *
  generalize (y.num : Rat) = f at *
  generalize ((x.den : Int) : Rat) = u at *
  generalize ((c.den : Int) : Rat) = v at *
  generalize ((y.den : Int) : Rat) = w at *
  subst e1 e2 e3
  grind
theorem rI_bits {m B : Nat} {A : List (List Rat)} (h : Mt m B A) {i : Nat} (hi : i < m) (hp : ent A i i ≠ 0) : ∀ x ∈ rI A i, bits (B + B) x := fun x hx => by
  obtain ⟨y, hy, rfl⟩ := List.mem_map.mp hx
  exact bits_quot (h.bit i hi y hy) (h.ent hi (by omega)) hp
theorem zw_mem {f : Rat → Rat → Rat} : ∀ {a b : List Rat} {z : Rat}, z ∈ List.zipWith f a b → ∃ x ∈ a, ∃ y ∈ b, z = f x y
  | [], _, z, h => by simp at h
  | _ :: _, [], z, h => by simp at h
  | x :: a, y :: b, z, h => by
    rw [List.zipWith_cons_cons] at h
    rcases List.mem_cons.mp h with rfl | h
    · exact ⟨x, List.mem_cons_self .., y, List.mem_cons_self .., rfl⟩
    · obtain ⟨x', h1, y', h2, e⟩ := zw_mem h
      exact ⟨x', List.mem_cons_of_mem _ h1, y', List.mem_cons_of_mem _ h2, e⟩
theorem mid_Mt {m B : Nat} {A : List (List Rat)} (h : Mt m B A) {i : Nat} (hi : i < m) (hp : ent A i i ≠ 0) (k : Nat) : Mt m (4 * B + 1) (mid m A i k) := by
  refine ⟨mid_len .., fun k' hk => ?_, fun k' hk x hx => ?_⟩
  · rw [row_mid hk]
    split
    · exact rI_len h hi
    · split
      · exact rK_len h hi hk
      · exact h.row k' hk
  · rw [row_mid hk] at hx
    split at hx
    · exact (rI_bits h hi hp x hx).mono (by omega)
    · split at hx
      · obtain ⟨u, hu, v, hv, rfl⟩ := zw_mem hx
        exact (bits_sub (h.bit k' hk u hu) (bits_mul (h.ent hk (show i < m + 1 by omega)) (rI_bits h hi hp v hv))).mono (by omega)
      · exact (h.bit k' hk x hx).mono (by omega)
theorem atL {A : List (List Rat)} {j : Nat} (h : j < A.length) : L2.atI (A.map lQ) (j : Int) = some (lQ (row A j)) := L2.atI_nat (by
  rw [List.getElem?_map, List.getElem?_eq_getElem h, row, List.getD_eq_getElem?_getD, List.getElem?_eq_getElem h]; rfl)
theorem setL {A : List (List Rat)} {j : Nat} {l : List Rat} (h : j < A.length) : setAt (.lst (A.map lQ)) (.int (j : Int)) (lQ l) = some (.lst ((A.set j l).map lQ)) := by
  show (L2.ixN (A.map lQ).length (j : Int)).map _ = _
  rw [List.length_map, ixN_n h]
  simp [List.map_set]
theorem set_ext {m : Nat} {A B : List (List Rat)} {i : Nat} {l : List Rat} (hA : A.length = m) (hB : B.length = m) (h : ∀ k, k < m → row B k = if k = i then l else row A k) : A.set i l = B := by
  refine List.ext_getElem (by rw [List.length_set]; omega) fun k h1 h2 => ?_
  rw [List.length_set] at h1
  have e := h k (by omega)
  rw [row, row, List.getD_eq_getElem?_getD, List.getD_eq_getElem?_getD, List.getElem?_eq_getElem h2, List.getElem?_eq_getElem h1] at e
  rw [List.getElem_set]
  by_cases z : i = k
  · subst z
    rw [if_pos rfl] at e ⊢
    exact e.symm
  · rw [if_neg z]
    rw [if_neg (fun q => z q.symm)] at e
    exact e.symm
theorem mid_0 {m B : Nat} {A : List (List Rat)} (h : Mt m B A) {i : Nat} : A.set i (rI A i) = mid m A i 0 := by
  refine set_ext h.len (mid_len ..) fun k hk => ?_
  rw [row_mid hk]
  by_cases z : k = i
  · rw [if_pos z, if_pos z]
  · rw [if_neg z, if_neg z, if_neg (by omega)]
theorem mid_s {m : Nat} {A : List (List Rat)} {i k : Nat} (hk : k ≠ i) : (mid m A i k).set k (rK A i k) = mid m A i (k + 1) := by
  refine set_ext (mid_len ..) (mid_len ..) fun k' hk' => ?_
  rw [row_mid hk', row_mid hk']
  by_cases z : k' = i
  · rw [if_pos z, if_pos z, if_neg (by omega)]
  · rw [if_neg z, if_neg z]
    by_cases w : k' = k
    · rw [w, if_pos (by omega), if_pos rfl]
    · rw [if_neg w]
      by_cases v : k' < k
      · rw [if_pos (by omega), if_pos v]
      · rw [if_neg (by omega), if_neg v]
theorem mid_i {m : Nat} {A : List (List Rat)} {i : Nat} : mid m A i i = mid m A i (i + 1) := by
  unfold mid
  refine List.map_congr_left fun k' _ => ?_
  by_cases z : k' = i
  · rw [if_pos z, if_pos z]
  · rw [if_neg z, if_neg z]
    by_cases v : k' < i
    · rw [if_pos v, if_pos (by omega)]
    · rw [if_neg v, if_neg (by omega)]
theorem pairsQ_get : ∀ (a b : List Rat) (j : Nat) (d : D), (pairs (a.map Qd) (b.map Qd))[j]? = some d → j < a.length ∧ j < b.length ∧ d = .tup [Qd (a.getD j 0), Qd (b.getD j 0)]
  | [], b, j, d, h => by simp [pairs] at h
  | x :: a, [], j, d, h => by simp [pairs] at h
  | x :: a, y :: b, 0, d, h => by
    have : D.tup [Qd x, Qd y] = d := by simpa [pairs] using h
    exact ⟨by simp, by simp, this.symm⟩
  | x :: a, y :: b, j + 1, d, h => by
    have h' : (pairs (a.map Qd) (b.map Qd))[j]? = some d := by simpa [pairs] using h
    obtain ⟨h1, h2, h3⟩ := pairsQ_get a b j d h'
    exact ⟨by simpa using h1, by simpa using h2, h3⟩
theorem zw_take (f : Rat → Rat → Rat) {a b : List Rat} {j : Nat} (h1 : j < a.length) (h2 : j < b.length) : (List.zipWith f a b).take (j + 1) = (List.zipWith f a b).take j ++ [f (a.getD j 0) (b.getD j 0)] := by
  have hl : j < (List.zipWith f a b).length := by rw [List.length_zipWith]; omega
  rw [List.take_succ_eq_append_getElem hl, List.getElem_zipWith, getD_eq h1, getD_eq h2]
end PyI

set_option Elab.async false
set_option linter.all false
set_option maxRecDepth 100000
set_option maxHeartbeats 8000000
/-! the law's own equations run -/
namespace PyI
open PySem PySem.Spec PyProof.Rows Rw PyData
variable {τ : Type} {O : Pk τ} {W : Nat}
theorem A0_row (ws : List Rat) {t : Nat} (h : t < ws.length) : row (A0 ws) t = ((List.range ws.length).map fun e => ((((t + 1 : Nat) : Int) ^ e : Int) : Rat)) ++ [ws.getD t 0] := by
  unfold row A0
  rw [List.getD_eq_getElem?_getD, List.getElem?_map, List.getElem?_range h]
  rfl
theorem A0_Mt {ws : List Rat} (hb : ∀ x ∈ ws, bits 8 x) (hl : ws.length ≤ 3) : Mt ws.length 8 (A0 ws) := by
  refine ⟨by unfold A0; rw [List.length_map, List.length_range], fun k hk => ?_, fun k hk x hx => ?_⟩
  · rw [A0_row ws hk, List.length_append, List.length_map, List.length_range]; rfl
  · rw [A0_row ws hk] at hx
    rcases List.mem_append.mp hx with h | h
    · obtain ⟨e, he, rfl⟩ := List.mem_map.mp h
      have he : e < ws.length := List.mem_range.mp he
      refine bits_int (Nat.le_trans (pow_bits (T := 2) (by omega) e) (pow_le2 (by omega)))
    · rw [List.mem_singleton] at h
      rw [h]
      exact hb _ (getD_mem hk)
def bi : Nat → Nat
  | 0 => 8
  | i + 1 => 4 * bi i + 1
theorem gj_Mt {ws : List Rat} (hb : ∀ x ∈ ws, bits 8 x) (hl : ws.length ≤ 3) : ∀ i, i ≤ ws.length → (∀ j, j < i → ent (gjA ws j) j j ≠ 0) → Mt ws.length (bi i) (gjA ws i)
  | 0, _, _ => A0_Mt hb hl
  | i + 1, h, hp => mid_Mt (gj_Mt hb hl i (by omega) fun j hj => hp j (by omega)) (by omega) (hp i (by omega)) _
theorem bi_le {i : Nat} (h : i ≤ 3) : bi i ≤ 533 := by
  have : i = 0 ∨ i = 1 ∨ i = 2 ∨ i = 3 := by omega
  rcases this with rfl | rfl | rfl | rfl <;> decide
theorem s_solved (n : Nat) {ws : List Rat} {t : τ} (hb : ∀ x ∈ ws, bits 8 x) (hl : ws.length ≤ 3) (hW : 2 ^ 8001 ≤ W) (hp : ∀ j, j < ws.length → ent (gjA ws j) j j ≠ 0) {Q : R → τ → Prop}
    (q : Q (.o (.lst (((gjA ws ws.length).map fun r => r.getD ws.length 0).map Qd))) t) : K2 (run O W prog (n + 2) i__law_solved [nD ws.length, tQ ws] t) Q := by
  refine run_ (fn := f__law_solved) rfl rfl ?_
  unfold f__law_solved b__law_solved
  rw [x_seq]
  simp only [e_var, v_v, v_o, e_non, e_bl, e_int, e_str, e_nil, e_dnil, e_cons, con_, e_tup, ls_, e_lst, e_bin, e_neg, int_, e_nt, e_and, e_or, e_ife, e_cmp, e_isc, e_call, e_pick, pick_, e_b1, e_b2, e_isin, e_ix, e_slc, e_rng1, e_rng2, e_enm, e_zp, zp_l, zp_t, e_comp, turn_, oc_s, oc_n, cmp_nil, x_asg, x_par, x_sto, sto_, x_app, app_, x_ext, ext_, x_ex, x_pop, pop_, x_popj, x_ret, ret_v, ret_o, ret_k, x_ifs, x_brk, x_cnt, x_pas, sq_b, sq_c, sq_r, x_seq, forB_, x_fr, whlC_, x_whl, okK_some, okK_ite, okK_map, okK_bind, trK_t, trK_f, trK_map, K2_some, K3_some, frz, bindT, wipe, R.d_v, R.d_o, R.d_k, R.st_v, R.st_o, R.st_k, binD, cmpD, truth, isinD, ix_d, ix_l, ix_t, get_d, e_get, e_rev, e_scons, x_par3, aI0, aI1, b1_len_d, b1_int, b1_intb, b1_sorted_d, partD, slcD, b1_len_l, b1_len_t, b1_len_s, b1_abs, b1_all, b1_any, b1_sum, b1_tup_l, b1_tup_t, b1_lst_l, b1_lst_t, b1_max, b1_min, b1_sorted, b2D, iscD, items, begin_, List.map_cons, List.map_nil, List.replicate_succ, List.replicate_zero, List.nil_append, List.cons_append, List.getElem?_cons_zero, List.getElem?_cons_succ, List.set_cons_zero, List.set_cons_succ, Option.bind_some, Option.map_some, Nat.reduceSub, Nat.reduceAdd, Int.toNat_natCast, Bool.not_false, Bool.not_true, okK_none, List.length_nil]
  refine ⟨Nat.zero_le _, ?_⟩
  rw [sq_n, x_seq]
  simp only [e_var, v_v, v_o, e_non, e_bl, e_int, e_str, e_nil, e_dnil, e_cons, con_, e_tup, ls_, e_lst, e_bin, e_neg, int_, e_nt, e_and, e_or, e_ife, e_cmp, e_isc, e_call, e_pick, pick_, e_b1, e_b2, e_isin, e_ix, e_slc, e_rng1, e_rng2, e_enm, e_zp, zp_l, zp_t, e_comp, turn_, oc_s, oc_n, cmp_nil, x_asg, x_par, x_sto, sto_, x_app, app_, x_ext, ext_, x_ex, x_pop, pop_, x_popj, x_ret, ret_v, ret_o, ret_k, x_ifs, x_brk, x_cnt, x_pas, sq_b, sq_c, sq_r, x_seq, forB_, x_fr, whlC_, x_whl, okK_some, okK_ite, okK_map, okK_bind, trK_t, trK_f, trK_map, K2_some, K3_some, frz, bindT, wipe, R.d_v, R.d_o, R.d_k, R.st_v, R.st_o, R.st_k, binD, cmpD, truth, isinD, ix_d, ix_l, ix_t, get_d, e_get, e_rev, e_scons, x_par3, aI0, aI1, b1_len_d, b1_int, b1_intb, b1_sorted_d, partD, slcD, b1_len_l, b1_len_t, b1_len_s, b1_abs, b1_all, b1_any, b1_sum, b1_tup_l, b1_tup_t, b1_lst_l, b1_lst_t, b1_max, b1_min, b1_sorted, b2D, iscD, items, begin_, List.map_cons, List.map_nil, List.replicate_succ, List.replicate_zero, List.nil_append, List.cons_append, List.getElem?_cons_zero, List.getElem?_cons_succ, List.set_cons_zero, List.set_cons_succ, Option.bind_some, Option.map_some, Nat.reduceSub, Nat.reduceAdd, Int.toNat_natCast, Bool.not_false, Bool.not_true, okK_none]
  refine ⟨⟨by constructor <;> omega, by constructor <;> omega⟩, ?_⟩
  rw [show (((ws.length : Nat) : Int) + 1 - 1).toNat = ws.length by omega]
  refine for_rng (fun j ρ t' => t' = t ∧ ∃ y3 y5 y8 y9 : Option R, ρ = [some (.v (nD ws.length)), some (.v (tQ ws)), some (.o (.lst (((A0 ws).take j).map lQ))), y3, none, y5, none, none, y8, y9, none, none, none, none]) ⟨rfl, none, none, none, none, rfl⟩ ?_ ?_
  · rintro j ρ t' hj ⟨rfl, y3, y5, y8, y9, rfl⟩
    rw [show ((1 : Int) + (j : Nat)) = ((j + 1 : Nat) : Int) by omega, forB_]
    simp only [bindT, okK_some, List.set_cons_succ, List.set_cons_zero]
    rw [x_seq]
    simp only [e_var, v_v, v_o, e_non, e_bl, e_int, e_str, e_nil, e_dnil, e_cons, con_, e_tup, ls_, e_lst, e_bin, e_neg, int_, e_nt, e_and, e_or, e_ife, e_cmp, e_isc, e_call, e_pick, pick_, e_b1, e_b2, e_isin, e_ix, e_slc, e_rng1, e_rng2, e_enm, e_zp, zp_l, zp_t, e_comp, turn_, oc_s, oc_n, cmp_nil, x_asg, x_par, x_sto, sto_, x_app, app_, x_ext, ext_, x_ex, x_pop, pop_, x_popj, x_ret, ret_v, ret_o, ret_k, x_ifs, x_brk, x_cnt, x_pas, sq_b, sq_c, sq_r, x_seq, forB_, x_fr, whlC_, x_whl, okK_some, okK_ite, okK_map, okK_bind, trK_t, trK_f, trK_map, K2_some, K3_some, frz, bindT, wipe, R.d_v, R.d_o, R.d_k, R.st_v, R.st_o, R.st_k, binD, cmpD, truth, isinD, ix_d, ix_l, ix_t, get_d, e_get, e_rev, e_scons, x_par3, aI0, aI1, b1_len_d, b1_int, b1_intb, b1_sorted_d, partD, slcD, b1_len_l, b1_len_t, b1_len_s, b1_abs, b1_all, b1_any, b1_sum, b1_tup_l, b1_tup_t, b1_lst_l, b1_lst_t, b1_max, b1_min, b1_sorted, b2D, iscD, items, begin_, List.map_cons, List.map_nil, List.replicate_succ, List.replicate_zero, List.nil_append, List.cons_append, List.getElem?_cons_zero, List.getElem?_cons_succ, List.set_cons_zero, List.set_cons_succ, Option.bind_some, Option.map_some, Nat.reduceSub, Nat.reduceAdd, Int.toNat_natCast, Bool.not_false, Bool.not_true, okK_none, List.length_nil]
    refine ⟨Nat.zero_le _, ?_⟩
    rw [sq_n, x_seq]
    simp only [e_var, v_v, v_o, e_non, e_bl, e_int, e_str, e_nil, e_dnil, e_cons, con_, e_tup, ls_, e_lst, e_bin, e_neg, int_, e_nt, e_and, e_or, e_ife, e_cmp, e_isc, e_call, e_pick, pick_, e_b1, e_b2, e_isin, e_ix, e_slc, e_rng1, e_rng2, e_enm, e_zp, zp_l, zp_t, e_comp, turn_, oc_s, oc_n, cmp_nil, x_asg, x_par, x_sto, sto_, x_app, app_, x_ext, ext_, x_ex, x_pop, pop_, x_popj, x_ret, ret_v, ret_o, ret_k, x_ifs, x_brk, x_cnt, x_pas, sq_b, sq_c, sq_r, x_seq, forB_, x_fr, whlC_, x_whl, okK_some, okK_ite, okK_map, okK_bind, trK_t, trK_f, trK_map, K2_some, K3_some, frz, bindT, wipe, R.d_v, R.d_o, R.d_k, R.st_v, R.st_o, R.st_k, binD, cmpD, truth, isinD, ix_d, ix_l, ix_t, get_d, e_get, e_rev, e_scons, x_par3, aI0, aI1, b1_len_d, b1_int, b1_intb, b1_sorted_d, partD, slcD, b1_len_l, b1_len_t, b1_len_s, b1_abs, b1_all, b1_any, b1_sum, b1_tup_l, b1_tup_t, b1_lst_l, b1_lst_t, b1_max, b1_min, b1_sorted, b2D, iscD, items, begin_, List.map_cons, List.map_nil, List.replicate_succ, List.replicate_zero, List.nil_append, List.cons_append, List.getElem?_cons_zero, List.getElem?_cons_succ, List.set_cons_zero, List.set_cons_succ, Option.bind_some, Option.map_some, Nat.reduceSub, Nat.reduceAdd, Int.toNat_natCast, Bool.not_false, Bool.not_true, okK_none]
    refine ⟨by constructor <;> omega, ?_⟩
    refine for_rng (fun e ρ t2 => t2 = t' ∧ ∃ y5 : Option R, ρ = [some (.v (nD ws.length)), some (.v (tQ ws)), some (.o (.lst (((A0 ws).take j).map lQ))), some (.v (nD (j + 1))), none, y5, none, none, some (.o (.lst (((List.range e).map fun e => ((((j + 1 : Nat) : Int) ^ e : Int) : Rat)).map Qd))), some (.v (.int (((j + 1 : Nat) : Int) ^ e))), none, none, none, none]) ⟨rfl, y5, rfl⟩ ?_ ?_
    · rintro e ρ t2 he ⟨rfl, y5, rfl⟩
      have he : e < ws.length := by omega
      simp only [e_var, v_v, v_o, e_non, e_bl, e_int, e_str, e_nil, e_dnil, e_cons, con_, e_tup, ls_, e_lst, e_bin, e_neg, int_, e_nt, e_and, e_or, e_ife, e_cmp, e_isc, e_call, e_pick, pick_, e_b1, e_b2, e_isin, e_ix, e_slc, e_rng1, e_rng2, e_enm, e_zp, zp_l, zp_t, e_comp, turn_, oc_s, oc_n, cmp_nil, x_asg, x_par, x_sto, sto_, x_app, app_, x_ext, ext_, x_ex, x_pop, pop_, x_popj, x_ret, ret_v, ret_o, ret_k, x_ifs, x_brk, x_cnt, x_pas, sq_b, sq_c, sq_r, x_seq, forB_, x_fr, whlC_, x_whl, okK_some, okK_ite, okK_map, okK_bind, trK_t, trK_f, trK_map, K2_some, K3_some, frz, bindT, wipe, R.d_v, R.d_o, R.d_k, R.st_v, R.st_o, R.st_k, binD, cmpD, truth, isinD, ix_d, ix_l, ix_t, get_d, e_get, e_rev, e_scons, x_par3, aI0, aI1, b1_len_d, b1_int, b1_intb, b1_sorted_d, partD, slcD, b1_len_l, b1_len_t, b1_len_s, b1_abs, b1_all, b1_any, b1_sum, b1_tup_l, b1_tup_t, b1_lst_l, b1_lst_t, b1_max, b1_min, b1_sorted, b2D, iscD, items, begin_, List.map_cons, List.map_nil, List.replicate_succ, List.replicate_zero, List.nil_append, List.cons_append, List.getElem?_cons_zero, List.getElem?_cons_succ, List.set_cons_zero, List.set_cons_succ, Option.bind_some, Option.map_some, Nat.reduceSub, Nat.reduceAdd, Int.toNat_natCast, Bool.not_false, Bool.not_true, okK_none]
      refine ⟨(by simp only [List.length_cons, List.length_nil, List.length_append, List.length_map, sizeLine_eq]; omega), (by simp only [List.length_cons, List.length_nil, List.length_append, List.length_map, sizeLine_eq]; omega), (by simp only [List.length_cons, List.length_nil, List.length_map, List.length_range, sizeLine_eq]; omega), mulM (a := 20) (b := 20) (Nat.le_trans (pow_bits (T := 2) (by omega) e) (pow_le2 (by omega))) (by omega), ?_⟩
      have e1 : ((List.range (e + 1)).map fun e => ((((j + 1 : Nat) : Int) ^ e : Int) : Rat)).map Qd = ((List.range e).map fun e => ((((j + 1 : Nat) : Int) ^ e : Int) : Rat)).map Qd ++ [D.tup [.int (((j + 1 : Nat) : Int) ^ e), .int 1]] := by
        rw [List.range_succ, List.map_append, List.map_append]
        rfl
      rw [e1, Int.pow_succ]
      exact ⟨trivial, _, rfl⟩
    · rintro ρ t2 ⟨rfl, y5, rfl⟩
      rw [sq_n]
      simp only [e_var, v_v, v_o, e_non, e_bl, e_int, e_str, e_nil, e_dnil, e_cons, con_, e_tup, ls_, e_lst, e_bin, e_neg, int_, e_nt, e_and, e_or, e_ife, e_cmp, e_isc, e_call, e_pick, pick_, e_b1, e_b2, e_isin, e_ix, e_slc, e_rng1, e_rng2, e_enm, e_zp, zp_l, zp_t, e_comp, turn_, oc_s, oc_n, cmp_nil, x_asg, x_par, x_sto, sto_, x_app, app_, x_ext, ext_, x_ex, x_pop, pop_, x_popj, x_ret, ret_v, ret_o, ret_k, x_ifs, x_brk, x_cnt, x_pas, sq_b, sq_c, sq_r, x_seq, forB_, x_fr, whlC_, x_whl, okK_some, okK_ite, okK_map, okK_bind, trK_t, trK_f, trK_map, K2_some, K3_some, frz, bindT, wipe, R.d_v, R.d_o, R.d_k, R.st_v, R.st_o, R.st_k, binD, cmpD, truth, isinD, ix_d, ix_l, ix_t, get_d, e_get, e_rev, e_scons, x_par3, aI0, aI1, b1_len_d, b1_int, b1_intb, b1_sorted_d, partD, slcD, b1_len_l, b1_len_t, b1_len_s, b1_abs, b1_all, b1_any, b1_sum, b1_tup_l, b1_tup_t, b1_lst_l, b1_lst_t, b1_max, b1_min, b1_sorted, b2D, iscD, items, begin_, List.map_cons, List.map_nil, List.replicate_succ, List.replicate_zero, List.nil_append, List.cons_append, List.getElem?_cons_zero, List.getElem?_cons_succ, List.set_cons_zero, List.set_cons_succ, Option.bind_some, Option.map_some, Nat.reduceSub, Nat.reduceAdd, Int.toNat_natCast, Bool.not_false, Bool.not_true, okK_none]
      rw [show (((j + 1 : Nat) : Int) - 1) = ((j : Nat) : Int) by omega, atQ hj, okK_some]
      have hA : (A0 ws).length = ws.length := by unfold A0; rw [List.length_map, List.length_range]
      have e1 : ((A0 ws).take (j + 1)).map lQ = ((A0 ws).take j).map lQ ++ [D.lst (((List.range ws.length).map fun e => ((((j + 1 : Nat) : Int) ^ e : Int) : Rat)).map Qd ++ [Qd (ws.getD j 0)])] := by
        rw [List.take_succ_eq_append_getElem (by omega), List.map_append]
        congr 1
        have := A0_row ws hj
        rw [row, List.getD_eq_getElem?_getD, List.getElem?_eq_getElem (by omega)] at this
        simp only [Option.getD_some] at this
        rw [this]
        simp
      rw [e1]
      refine ⟨(by simp only [List.length_cons, List.length_nil, List.length_append, List.length_map, sizeLine_eq]; omega), (by simp only [List.length_cons, List.length_nil, List.length_map, List.length_range, sizeLine_eq]; omega), (by simp only [List.length_map, List.length_take, sizeLine_eq]; omega), trivial, _, _, _, _, rfl⟩
  · rintro ρ t0 ⟨rfl, y3, y5, y8, y9, rfl⟩
    have hA : (A0 ws).length = ws.length := by unfold A0; rw [List.length_map, List.length_range]
    rw [List.take_of_length_le (by omega), sq_n, x_seq]
    simp only [e_var, v_v, v_o, e_non, e_bl, e_int, e_str, e_nil, e_dnil, e_cons, con_, e_tup, ls_, e_lst, e_bin, e_neg, int_, e_nt, e_and, e_or, e_ife, e_cmp, e_isc, e_call, e_pick, pick_, e_b1, e_b2, e_isin, e_ix, e_slc, e_rng1, e_rng2, e_enm, e_zp, zp_l, zp_t, e_comp, turn_, oc_s, oc_n, cmp_nil, x_asg, x_par, x_sto, sto_, x_app, app_, x_ext, ext_, x_ex, x_pop, pop_, x_popj, x_ret, ret_v, ret_o, ret_k, x_ifs, x_brk, x_cnt, x_pas, sq_b, sq_c, sq_r, x_seq, forB_, x_fr, whlC_, x_whl, okK_some, okK_ite, okK_map, okK_bind, trK_t, trK_f, trK_map, K2_some, K3_some, frz, bindT, wipe, R.d_v, R.d_o, R.d_k, R.st_v, R.st_o, R.st_k, binD, cmpD, truth, isinD, ix_d, ix_l, ix_t, get_d, e_get, e_rev, e_scons, x_par3, aI0, aI1, b1_len_d, b1_int, b1_intb, b1_sorted_d, partD, slcD, b1_len_l, b1_len_t, b1_len_s, b1_abs, b1_all, b1_any, b1_sum, b1_tup_l, b1_tup_t, b1_lst_l, b1_lst_t, b1_max, b1_min, b1_sorted, b2D, iscD, items, begin_, List.map_cons, List.map_nil, List.replicate_succ, List.replicate_zero, List.nil_append, List.cons_append, List.getElem?_cons_zero, List.getElem?_cons_succ, List.set_cons_zero, List.set_cons_succ, Option.bind_some, Option.map_some, Nat.reduceSub, Nat.reduceAdd, Int.toNat_natCast, Bool.not_false, Bool.not_true, okK_none]
    refine ⟨by constructor <;> omega, ?_⟩
    refine for_rng (fun i ρ t' => t' = t0 ∧ ∃ y3 y4 y5 y6 y7 y8 y9 y10 y11 y12 y13 : Option R, ρ = [some (.v (nD ws.length)), some (.v (tQ ws)), some (.o (.lst ((gjA ws i).map lQ))), y3, y4, y5, y6, y7, y8, y9, y10, y11, y12, y13]) ⟨rfl, _, _, _, _, _, _, _, _, _, _, _, rfl⟩ ?_ ?_
    · rintro i ρ t' hi ⟨rfl, y3, y4, y5, y6, y7, y8, y9, y10, y11, y12, y13, rfl⟩
      have M := gj_Mt hb hl i (by omega) fun j hj => hp j (by omega)
      have hB := bi_le (i := i) (by omega)
      have hpi := hp i hi
      have hnx : gjA ws (i + 1) = mid ws.length (gjA ws i) i ws.length := rfl
      rw [hnx]
      generalize gjA ws i = A at *
      generalize bi i = B at *
      have hrow := M.row i hi
      have hAl := M.len
      rw [show ((0 : Int) + (i : Nat)) = ((i : Nat) : Int) by omega, forB_]
      simp only [bindT, okK_some, List.set_cons_succ, List.set_cons_zero]
      rw [x_seq]
      simp only [e_var, v_v, v_o, e_non, e_bl, e_int, e_str, e_nil, e_dnil, e_cons, con_, e_tup, ls_, e_lst, e_bin, e_neg, int_, e_nt, e_and, e_or, e_ife, e_cmp, e_isc, e_call, e_pick, pick_, e_b1, e_b2, e_isin, e_ix, e_slc, e_rng1, e_rng2, e_enm, e_zp, zp_l, zp_t, e_comp, turn_, oc_s, oc_n, cmp_nil, x_asg, x_par, x_sto, sto_, x_app, app_, x_ext, ext_, x_ex, x_pop, pop_, x_popj, x_ret, ret_v, ret_o, ret_k, x_ifs, x_brk, x_cnt, x_pas, sq_b, sq_c, sq_r, x_seq, forB_, x_fr, whlC_, x_whl, okK_some, okK_ite, okK_map, okK_bind, trK_t, trK_f, trK_map, K2_some, K3_some, frz, bindT, wipe, R.d_v, R.d_o, R.d_k, R.st_v, R.st_o, R.st_k, binD, cmpD, truth, isinD, ix_d, ix_l, ix_t, get_d, e_get, e_rev, e_scons, x_par3, aI0, aI1, b1_len_d, b1_int, b1_intb, b1_sorted_d, partD, slcD, b1_len_l, b1_len_t, b1_len_s, b1_abs, b1_all, b1_any, b1_sum, b1_tup_l, b1_tup_t, b1_lst_l, b1_lst_t, b1_max, b1_min, b1_sorted, b2D, iscD, items, begin_, List.map_cons, List.map_nil, List.replicate_succ, List.replicate_zero, List.nil_append, List.cons_append, List.getElem?_cons_zero, List.getElem?_cons_succ, List.set_cons_zero, List.set_cons_succ, Option.bind_some, Option.map_some, Nat.reduceSub, Nat.reduceAdd, Int.toNat_natCast, Bool.not_false, Bool.not_true, okK_none]
      rw [atL (by omega)]
      simp only [e_var, v_v, v_o, e_non, e_bl, e_int, e_str, e_nil, e_dnil, e_cons, con_, e_tup, ls_, e_lst, e_bin, e_neg, int_, e_nt, e_and, e_or, e_ife, e_cmp, e_isc, e_call, e_pick, pick_, e_b1, e_b2, e_isin, e_ix, e_slc, e_rng1, e_rng2, e_enm, e_zp, zp_l, zp_t, e_comp, turn_, oc_s, oc_n, cmp_nil, x_asg, x_par, x_sto, sto_, x_app, app_, x_ext, ext_, x_ex, x_pop, pop_, x_popj, x_ret, ret_v, ret_o, ret_k, x_ifs, x_brk, x_cnt, x_pas, sq_b, sq_c, sq_r, x_seq, forB_, x_fr, whlC_, x_whl, okK_some, okK_ite, okK_map, okK_bind, trK_t, trK_f, trK_map, K2_some, K3_some, frz, bindT, wipe, R.d_v, R.d_o, R.d_k, R.st_v, R.st_o, R.st_k, binD, cmpD, truth, isinD, ix_d, ix_l, ix_t, get_d, e_get, e_rev, e_scons, x_par3, aI0, aI1, b1_len_d, b1_int, b1_intb, b1_sorted_d, partD, slcD, b1_len_l, b1_len_t, b1_len_s, b1_abs, b1_all, b1_any, b1_sum, b1_tup_l, b1_tup_t, b1_lst_l, b1_lst_t, b1_max, b1_min, b1_sorted, b2D, iscD, items, begin_, List.map_cons, List.map_nil, List.replicate_succ, List.replicate_zero, List.nil_append, List.cons_append, List.getElem?_cons_zero, List.getElem?_cons_succ, List.set_cons_zero, List.set_cons_succ, Option.bind_some, Option.map_some, Nat.reduceSub, Nat.reduceAdd, Int.toNat_natCast, Bool.not_false, Bool.not_true, okK_none]
      rw [atQ (by omega)]
      simp only [e_var, v_v, v_o, e_non, e_bl, e_int, e_str, e_nil, e_dnil, e_cons, con_, e_tup, ls_, e_lst, e_bin, e_neg, int_, e_nt, e_and, e_or, e_ife, e_cmp, e_isc, e_call, e_pick, pick_, e_b1, e_b2, e_isin, e_ix, e_slc, e_rng1, e_rng2, e_enm, e_zp, zp_l, zp_t, e_comp, turn_, oc_s, oc_n, cmp_nil, x_asg, x_par, x_sto, sto_, x_app, app_, x_ext, ext_, x_ex, x_pop, pop_, x_popj, x_ret, ret_v, ret_o, ret_k, x_ifs, x_brk, x_cnt, x_pas, sq_b, sq_c, sq_r, x_seq, forB_, x_fr, whlC_, x_whl, okK_some, okK_ite, okK_map, okK_bind, trK_t, trK_f, trK_map, K2_some, K3_some, frz, bindT, wipe, R.d_v, R.d_o, R.d_k, R.st_v, R.st_o, R.st_k, binD, cmpD, truth, isinD, ix_d, ix_l, ix_t, get_d, e_get, e_rev, e_scons, x_par3, aI0, aI1, b1_len_d, b1_int, b1_intb, b1_sorted_d, partD, slcD, b1_len_l, b1_len_t, b1_len_s, b1_abs, b1_all, b1_any, b1_sum, b1_tup_l, b1_tup_t, b1_lst_l, b1_lst_t, b1_max, b1_min, b1_sorted, b2D, iscD, items, begin_, List.map_cons, List.map_nil, List.replicate_succ, List.replicate_zero, List.nil_append, List.cons_append, List.getElem?_cons_zero, List.getElem?_cons_succ, List.set_cons_zero, List.set_cons_succ, Option.bind_some, Option.map_some, Nat.reduceSub, Nat.reduceAdd, Int.toNat_natCast, Bool.not_false, Bool.not_true, okK_none]
      rw [sq_n, x_seq]
      simp only [e_var, v_v, v_o, e_non, e_bl, e_int, e_str, e_nil, e_dnil, e_cons, con_, e_tup, ls_, e_lst, e_bin, e_neg, int_, e_nt, e_and, e_or, e_ife, e_cmp, e_isc, e_call, e_pick, pick_, e_b1, e_b2, e_isin, e_ix, e_slc, e_rng1, e_rng2, e_enm, e_zp, zp_l, zp_t, e_comp, turn_, oc_s, oc_n, cmp_nil, x_asg, x_par, x_sto, sto_, x_app, app_, x_ext, ext_, x_ex, x_pop, pop_, x_popj, x_ret, ret_v, ret_o, ret_k, x_ifs, x_brk, x_cnt, x_pas, sq_b, sq_c, sq_r, x_seq, forB_, x_fr, whlC_, x_whl, okK_some, okK_ite, okK_map, okK_bind, trK_t, trK_f, trK_map, K2_some, K3_some, frz, bindT, wipe, R.d_v, R.d_o, R.d_k, R.st_v, R.st_o, R.st_k, binD, cmpD, truth, isinD, ix_d, ix_l, ix_t, get_d, e_get, e_rev, e_scons, x_par3, aI0, aI1, b1_len_d, b1_int, b1_intb, b1_sorted_d, partD, slcD, b1_len_l, b1_len_t, b1_len_s, b1_abs, b1_all, b1_any, b1_sum, b1_tup_l, b1_tup_t, b1_lst_l, b1_lst_t, b1_max, b1_min, b1_sorted, b2D, iscD, items, begin_, List.map_cons, List.map_nil, List.replicate_succ, List.replicate_zero, List.nil_append, List.cons_append, List.getElem?_cons_zero, List.getElem?_cons_succ, List.set_cons_zero, List.set_cons_succ, Option.bind_some, Option.map_some, Nat.reduceSub, Nat.reduceAdd, Int.toNat_natCast, Bool.not_false, Bool.not_true, okK_none]
      rw [atL (by omega)]
      simp only [e_var, v_v, v_o, e_non, e_bl, e_int, e_str, e_nil, e_dnil, e_cons, con_, e_tup, ls_, e_lst, e_bin, e_neg, int_, e_nt, e_and, e_or, e_ife, e_cmp, e_isc, e_call, e_pick, pick_, e_b1, e_b2, e_isin, e_ix, e_slc, e_rng1, e_rng2, e_enm, e_zp, zp_l, zp_t, e_comp, turn_, oc_s, oc_n, cmp_nil, x_asg, x_par, x_sto, sto_, x_app, app_, x_ext, ext_, x_ex, x_pop, pop_, x_popj, x_ret, ret_v, ret_o, ret_k, x_ifs, x_brk, x_cnt, x_pas, sq_b, sq_c, sq_r, x_seq, forB_, x_fr, whlC_, x_whl, okK_some, okK_ite, okK_map, okK_bind, trK_t, trK_f, trK_map, K2_some, K3_some, frz, bindT, wipe, R.d_v, R.d_o, R.d_k, R.st_v, R.st_o, R.st_k, binD, cmpD, truth, isinD, ix_d, ix_l, ix_t, get_d, e_get, e_rev, e_scons, x_par3, aI0, aI1, b1_len_d, b1_int, b1_intb, b1_sorted_d, partD, slcD, b1_len_l, b1_len_t, b1_len_s, b1_abs, b1_all, b1_any, b1_sum, b1_tup_l, b1_tup_t, b1_lst_l, b1_lst_t, b1_max, b1_min, b1_sorted, b2D, iscD, items, begin_, List.map_cons, List.map_nil, List.replicate_succ, List.replicate_zero, List.nil_append, List.cons_append, List.getElem?_cons_zero, List.getElem?_cons_succ, List.set_cons_zero, List.set_cons_succ, Option.bind_some, Option.map_some, Nat.reduceSub, Nat.reduceAdd, Int.toNat_natCast, Bool.not_false, Bool.not_true, okK_none, List.length_map]
      refine ⟨by rw [sizeLine_eq]; omega, ?_⟩
      have pb := M.ent hi (show i < ws.length + 1 by omega)
      refine cmp_map (fun d => Qd (qd d / ent A i i)) _ _ (fun d hd => ?_) ?_
      · obtain ⟨x, hx, rfl⟩ := List.mem_map.mp hd
        have xb := M.bit i hi x hx
        obtain ⟨d1, d2⟩ := q_div (x := x) hpi
        simp only [e_var, v_v, v_o, e_non, e_bl, e_int, e_str, e_nil, e_dnil, e_cons, con_, e_tup, ls_, e_lst, e_bin, e_neg, int_, e_nt, e_and, e_or, e_ife, e_cmp, e_isc, e_call, e_pick, pick_, e_b1, e_b2, e_isin, e_ix, e_slc, e_rng1, e_rng2, e_enm, e_zp, zp_l, zp_t, e_comp, turn_, oc_s, oc_n, cmp_nil, cmp_cons, x_asg, x_par, x_sto, sto_, x_app, app_, x_ext, ext_, x_ex, x_pop, pop_, x_popj, x_ret, ret_v, ret_o, ret_k, x_ifs, x_brk, x_cnt, x_pas, sq_n, sq_b, sq_c, sq_r, x_seq, forB_, x_fr, whlC_, x_whl, okK_some, okK_ite, okK_map, okK_bind, trK_t, trK_f, trK_map, K2_some, K3_some, frz, bindT, wipe, R.d_v, R.d_o, R.d_k, R.st_v, R.st_o, R.st_k, binD, cmpD, truth, isinD, ix_d, ix_l, ix_t, get_d, e_get, e_rev, e_scons, x_par3, aI0, aI1, b1_len_d, b1_int, b1_intb, b1_sorted_d, partD, slcD, b1_len_l, b1_len_t, b1_len_s, b1_abs, b1_all, b1_any, b1_sum, b1_tup_l, b1_tup_t, b1_lst_l, b1_lst_t, b1_max, b1_min, b1_sorted, b2D, iscD, items, begin_, List.map_cons, List.map_nil, List.replicate_succ, List.replicate_zero, List.nil_append, List.cons_append, List.getElem?_cons_zero, List.getElem?_cons_succ, List.set_cons_zero, List.set_cons_succ, Option.bind_some, Option.map_some, Nat.reduceSub, Nat.reduceAdd, Int.toNat_natCast, Bool.not_false, Bool.not_true, okK_none]
        refine ⟨mulM xb.1 pb.den, mulM xb.den pb.1, ?_⟩
        refine s_lfrac n d1 (Nat.le_trans (mul_le2 xb.den pb.1) (pow_le2 (by omega))) hW ?_
        rw [d2]
        simp only [e_var, v_v, v_o, e_non, e_bl, e_int, e_str, e_nil, e_dnil, e_cons, con_, e_tup, ls_, e_lst, e_bin, e_neg, int_, e_nt, e_and, e_or, e_ife, e_cmp, e_isc, e_call, e_pick, pick_, e_b1, e_b2, e_isin, e_ix, e_slc, e_rng1, e_rng2, e_enm, e_zp, zp_l, zp_t, e_comp, turn_, oc_s, oc_n, cmp_nil, cmp_cons, x_asg, x_par, x_sto, sto_, x_app, app_, x_ext, ext_, x_ex, x_pop, pop_, x_popj, x_ret, ret_v, ret_o, ret_k, x_ifs, x_brk, x_cnt, x_pas, sq_n, sq_b, sq_c, sq_r, x_seq, forB_, x_fr, whlC_, x_whl, okK_some, okK_ite, okK_map, okK_bind, trK_t, trK_f, trK_map, K2_some, K3_some, frz, bindT, wipe, R.d_v, R.d_o, R.d_k, R.st_v, R.st_o, R.st_k, binD, cmpD, truth, isinD, ix_d, ix_l, ix_t, get_d, e_get, e_rev, e_scons, x_par3, aI0, aI1, b1_len_d, b1_int, b1_intb, b1_sorted_d, partD, slcD, b1_len_l, b1_len_t, b1_len_s, b1_abs, b1_all, b1_any, b1_sum, b1_tup_l, b1_tup_t, b1_lst_l, b1_lst_t, b1_max, b1_min, b1_sorted, b2D, iscD, items, begin_, List.map_cons, List.map_nil, List.replicate_succ, List.replicate_zero, List.nil_append, List.cons_append, List.getElem?_cons_zero, List.getElem?_cons_succ, List.set_cons_zero, List.set_cons_succ, Option.bind_some, Option.map_some, Nat.reduceSub, Nat.reduceAdd, Int.toNat_natCast, Bool.not_false, Bool.not_true, okK_none, qd_Q]
        exact ⟨trivial, trivial⟩
      · have e1 : ((row A i).map Qd).map (fun d => Qd (qd d / ent A i i)) = (rI A i).map Qd := by
          rw [List.map_map, rI, List.map_map]
          refine List.map_congr_left fun x _ => ?_
          simp only [Function.comp, qd_Q]
        rw [e1]
        rw [show D.lst ((rI A i).map Qd) = lQ (rI A i) from rfl, setL (by omega), okK_some, mid_0 M, sq_n]
        simp only [e_var, v_v, v_o, e_non, e_bl, e_int, e_str, e_nil, e_dnil, e_cons, con_, e_tup, ls_, e_lst, e_bin, e_neg, int_, e_nt, e_and, e_or, e_ife, e_cmp, e_isc, e_call, e_pick, pick_, e_b1, e_b2, e_isin, e_ix, e_slc, e_rng1, e_rng2, e_enm, e_zp, zp_l, zp_t, e_comp, turn_, oc_s, oc_n, cmp_nil, x_asg, x_par, x_sto, sto_, x_app, app_, x_ext, ext_, x_ex, x_pop, pop_, x_popj, x_ret, ret_v, ret_o, ret_k, x_ifs, x_brk, x_cnt, x_pas, sq_b, sq_c, sq_r, x_seq, forB_, x_fr, whlC_, x_whl, okK_some, okK_ite, okK_map, okK_bind, trK_t, trK_f, trK_map, K2_some, K3_some, frz, bindT, wipe, R.d_v, R.d_o, R.d_k, R.st_v, R.st_o, R.st_k, binD, cmpD, truth, isinD, ix_d, ix_l, ix_t, get_d, e_get, e_rev, e_scons, x_par3, aI0, aI1, b1_len_d, b1_int, b1_intb, b1_sorted_d, partD, slcD, b1_len_l, b1_len_t, b1_len_s, b1_abs, b1_all, b1_any, b1_sum, b1_tup_l, b1_tup_t, b1_lst_l, b1_lst_t, b1_max, b1_min, b1_sorted, b2D, iscD, items, begin_, List.map_cons, List.map_nil, List.replicate_succ, List.replicate_zero, List.nil_append, List.cons_append, List.getElem?_cons_zero, List.getElem?_cons_succ, List.set_cons_zero, List.set_cons_succ, Option.bind_some, Option.map_some, Nat.reduceSub, Nat.reduceAdd, Int.toNat_natCast, Bool.not_false, Bool.not_true, okK_none]
        refine ⟨by constructor <;> omega, ?_⟩
        refine for_rng (fun k ρ t2 => t2 = t' ∧ ∃ y7 y10 y11 y12 y13 : Option R, ρ = [some (.v (nD ws.length)), some (.v (tQ ws)), some (.o (.lst ((mid ws.length A i k).map lQ))), y3, some (.v (nD i)), y5, some (.v (Qd (ent A i i))), y7, y8, y9, y10, y11, y12, y13]) ⟨rfl, _, _, _, _, _, rfl⟩ ?_ ?_
        · rintro k ρ t2 hk ⟨rfl, y7, y10, y11, y12, y13, rfl⟩
          rw [show ((0 : Int) + (k : Nat)) = ((k : Nat) : Int) by omega, forB_]
          simp only [bindT, okK_some, List.set_cons_succ, List.set_cons_zero]
          simp only [e_var, v_v, v_o, e_non, e_bl, e_int, e_str, e_nil, e_dnil, e_cons, con_, e_tup, ls_, e_lst, e_bin, e_neg, int_, e_nt, e_and, e_or, e_ife, e_cmp, e_isc, e_call, e_pick, pick_, e_b1, e_b2, e_isin, e_ix, e_slc, e_rng1, e_rng2, e_enm, e_zp, zp_l, zp_t, e_comp, turn_, oc_s, oc_n, cmp_nil, x_asg, x_par, x_sto, sto_, x_app, app_, x_ext, ext_, x_ex, x_pop, pop_, x_popj, x_ret, ret_v, ret_o, ret_k, x_ifs, x_brk, x_cnt, x_pas, sq_b, sq_c, sq_r, x_seq, forB_, x_fr, whlC_, x_whl, okK_some, okK_ite, okK_map, okK_bind, trK_t, trK_f, trK_map, K2_some, K3_some, frz, bindT, wipe, R.d_v, R.d_o, R.d_k, R.st_v, R.st_o, R.st_k, binD, cmpD, truth, isinD, ix_d, ix_l, ix_t, get_d, e_get, e_rev, e_scons, x_par3, aI0, aI1, b1_len_d, b1_int, b1_intb, b1_sorted_d, partD, slcD, b1_len_l, b1_len_t, b1_len_s, b1_abs, b1_all, b1_any, b1_sum, b1_tup_l, b1_tup_t, b1_lst_l, b1_lst_t, b1_max, b1_min, b1_sorted, b2D, iscD, items, begin_, List.map_cons, List.map_nil, List.replicate_succ, List.replicate_zero, List.nil_append, List.cons_append, List.getElem?_cons_zero, List.getElem?_cons_succ, List.set_cons_zero, List.set_cons_succ, Option.bind_some, Option.map_some, Nat.reduceSub, Nat.reduceAdd, Int.toNat_natCast, Bool.not_false, Bool.not_true, okK_none, eq_int]
          refine trK_b.mpr ⟨fun h => ?_, fun h => ?_⟩
          · have hki : k ≠ i := fun z => by subst z; simp at h
            have ml := mid_len ws.length A i k
            have r1 : row (mid ws.length A i k) k = row A k := by rw [row_mid hk, if_neg hki, if_neg (by omega)]
            have r2 : row (mid ws.length A i k) i = rI A i := by rw [row_mid hi, if_pos rfl]
            have hrk := M.row k hk
            rw [atL (by omega), r1]
            simp only [e_var, v_v, v_o, e_non, e_bl, e_int, e_str, e_nil, e_dnil, e_cons, con_, e_tup, ls_, e_lst, e_bin, e_neg, int_, e_nt, e_and, e_or, e_ife, e_cmp, e_isc, e_call, e_pick, pick_, e_b1, e_b2, e_isin, e_ix, e_slc, e_rng1, e_rng2, e_enm, e_zp, zp_l, zp_t, e_comp, turn_, oc_s, oc_n, cmp_nil, x_asg, x_par, x_sto, sto_, x_app, app_, x_ext, ext_, x_ex, x_pop, pop_, x_popj, x_ret, ret_v, ret_o, ret_k, x_ifs, x_brk, x_cnt, x_pas, sq_b, sq_c, sq_r, x_seq, forB_, x_fr, whlC_, x_whl, okK_some, okK_ite, okK_map, okK_bind, trK_t, trK_f, trK_map, K2_some, K3_some, frz, bindT, wipe, R.d_v, R.d_o, R.d_k, R.st_v, R.st_o, R.st_k, binD, cmpD, truth, isinD, ix_d, ix_l, ix_t, get_d, e_get, e_rev, e_scons, x_par3, aI0, aI1, b1_len_d, b1_int, b1_intb, b1_sorted_d, partD, slcD, b1_len_l, b1_len_t, b1_len_s, b1_abs, b1_all, b1_any, b1_sum, b1_tup_l, b1_tup_t, b1_lst_l, b1_lst_t, b1_max, b1_min, b1_sorted, b2D, iscD, items, begin_, List.map_cons, List.map_nil, List.replicate_succ, List.replicate_zero, List.nil_append, List.cons_append, List.getElem?_cons_zero, List.getElem?_cons_succ, List.set_cons_zero, List.set_cons_succ, Option.bind_some, Option.map_some, Nat.reduceSub, Nat.reduceAdd, Int.toNat_natCast, Bool.not_false, Bool.not_true, okK_none]
            rw [atQ (by omega)]
            simp only [e_var, v_v, v_o, e_non, e_bl, e_int, e_str, e_nil, e_dnil, e_cons, con_, e_tup, ls_, e_lst, e_bin, e_neg, int_, e_nt, e_and, e_or, e_ife, e_cmp, e_isc, e_call, e_pick, pick_, e_b1, e_b2, e_isin, e_ix, e_slc, e_rng1, e_rng2, e_enm, e_zp, zp_l, zp_t, e_comp, turn_, oc_s, oc_n, cmp_nil, x_asg, x_par, x_sto, sto_, x_app, app_, x_ext, ext_, x_ex, x_pop, pop_, x_popj, x_ret, ret_v, ret_o, ret_k, x_ifs, x_brk, x_cnt, x_pas, sq_b, sq_c, sq_r, x_seq, forB_, x_fr, whlC_, x_whl, okK_some, okK_ite, okK_map, okK_bind, trK_t, trK_f, trK_map, K2_some, K3_some, frz, bindT, wipe, R.d_v, R.d_o, R.d_k, R.st_v, R.st_o, R.st_k, binD, cmpD, truth, isinD, ix_d, ix_l, ix_t, get_d, e_get, e_rev, e_scons, x_par3, aI0, aI1, b1_len_d, b1_int, b1_intb, b1_sorted_d, partD, slcD, b1_len_l, b1_len_t, b1_len_s, b1_abs, b1_all, b1_any, b1_sum, b1_tup_l, b1_tup_t, b1_lst_l, b1_lst_t, b1_max, b1_min, b1_sorted, b2D, iscD, items, begin_, List.map_cons, List.map_nil, List.replicate_succ, List.replicate_zero, List.nil_append, List.cons_append, List.getElem?_cons_zero, List.getElem?_cons_succ, List.set_cons_zero, List.set_cons_succ, Option.bind_some, Option.map_some, Nat.reduceSub, Nat.reduceAdd, Int.toNat_natCast, Bool.not_false, Bool.not_true, okK_none, List.length_nil]
            refine ⟨Nat.zero_le _, ?_⟩
            rw [sq_n, x_seq]
            simp only [e_var, v_v, v_o, e_non, e_bl, e_int, e_str, e_nil, e_dnil, e_cons, con_, e_tup, ls_, e_lst, e_bin, e_neg, int_, e_nt, e_and, e_or, e_ife, e_cmp, e_isc, e_call, e_pick, pick_, e_b1, e_b2, e_isin, e_ix, e_slc, e_rng1, e_rng2, e_enm, e_zp, zp_l, zp_t, e_comp, turn_, oc_s, oc_n, cmp_nil, x_asg, x_par, x_sto, sto_, x_app, app_, x_ext, ext_, x_ex, x_pop, pop_, x_popj, x_ret, ret_v, ret_o, ret_k, x_ifs, x_brk, x_cnt, x_pas, sq_b, sq_c, sq_r, x_seq, forB_, x_fr, whlC_, x_whl, okK_some, okK_ite, okK_map, okK_bind, trK_t, trK_f, trK_map, K2_some, K3_some, frz, bindT, wipe, R.d_v, R.d_o, R.d_k, R.st_v, R.st_o, R.st_k, binD, cmpD, truth, isinD, ix_d, ix_l, ix_t, get_d, e_get, e_rev, e_scons, x_par3, aI0, aI1, b1_len_d, b1_int, b1_intb, b1_sorted_d, partD, slcD, b1_len_l, b1_len_t, b1_len_s, b1_abs, b1_all, b1_any, b1_sum, b1_tup_l, b1_tup_t, b1_lst_l, b1_lst_t, b1_max, b1_min, b1_sorted, b2D, iscD, items, begin_, List.map_cons, List.map_nil, List.replicate_succ, List.replicate_zero, List.nil_append, List.cons_append, List.getElem?_cons_zero, List.getElem?_cons_succ, List.set_cons_zero, List.set_cons_succ, Option.bind_some, Option.map_some, Nat.reduceSub, Nat.reduceAdd, Int.toNat_natCast, Bool.not_false, Bool.not_true, okK_none]
            rw [atL (by omega), r1]
            simp only [e_var, v_v, v_o, e_non, e_bl, e_int, e_str, e_nil, e_dnil, e_cons, con_, e_tup, ls_, e_lst, e_bin, e_neg, int_, e_nt, e_and, e_or, e_ife, e_cmp, e_isc, e_call, e_pick, pick_, e_b1, e_b2, e_isin, e_ix, e_slc, e_rng1, e_rng2, e_enm, e_zp, zp_l, zp_t, e_comp, turn_, oc_s, oc_n, cmp_nil, x_asg, x_par, x_sto, sto_, x_app, app_, x_ext, ext_, x_ex, x_pop, pop_, x_popj, x_ret, ret_v, ret_o, ret_k, x_ifs, x_brk, x_cnt, x_pas, sq_b, sq_c, sq_r, x_seq, forB_, x_fr, whlC_, x_whl, okK_some, okK_ite, okK_map, okK_bind, trK_t, trK_f, trK_map, K2_some, K3_some, frz, bindT, wipe, R.d_v, R.d_o, R.d_k, R.st_v, R.st_o, R.st_k, binD, cmpD, truth, isinD, ix_d, ix_l, ix_t, get_d, e_get, e_rev, e_scons, x_par3, aI0, aI1, b1_len_d, b1_int, b1_intb, b1_sorted_d, partD, slcD, b1_len_l, b1_len_t, b1_len_s, b1_abs, b1_all, b1_any, b1_sum, b1_tup_l, b1_tup_t, b1_lst_l, b1_lst_t, b1_max, b1_min, b1_sorted, b2D, iscD, items, begin_, List.map_cons, List.map_nil, List.replicate_succ, List.replicate_zero, List.nil_append, List.cons_append, List.getElem?_cons_zero, List.getElem?_cons_succ, List.set_cons_zero, List.set_cons_succ, Option.bind_some, Option.map_some, Nat.reduceSub, Nat.reduceAdd, Int.toNat_natCast, Bool.not_false, Bool.not_true, okK_none]
            rw [atL (by omega), r2]
            simp only [e_var, v_v, v_o, e_non, e_bl, e_int, e_str, e_nil, e_dnil, e_cons, con_, e_tup, ls_, e_lst, e_bin, e_neg, int_, e_nt, e_and, e_or, e_ife, e_cmp, e_isc, e_call, e_pick, pick_, e_b1, e_b2, e_isin, e_ix, e_slc, e_rng1, e_rng2, e_enm, e_zp, zp_l, zp_t, e_comp, turn_, oc_s, oc_n, cmp_nil, x_asg, x_par, x_sto, sto_, x_app, app_, x_ext, ext_, x_ex, x_pop, pop_, x_popj, x_ret, ret_v, ret_o, ret_k, x_ifs, x_brk, x_cnt, x_pas, sq_b, sq_c, sq_r, x_seq, forB_, x_fr, whlC_, x_whl, okK_some, okK_ite, okK_map, okK_bind, trK_t, trK_f, trK_map, K2_some, K3_some, frz, bindT, wipe, R.d_v, R.d_o, R.d_k, R.st_v, R.st_o, R.st_k, binD, cmpD, truth, isinD, ix_d, ix_l, ix_t, get_d, e_get, e_rev, e_scons, x_par3, aI0, aI1, b1_len_d, b1_int, b1_intb, b1_sorted_d, partD, slcD, b1_len_l, b1_len_t, b1_len_s, b1_abs, b1_all, b1_any, b1_sum, b1_tup_l, b1_tup_t, b1_lst_l, b1_lst_t, b1_max, b1_min, b1_sorted, b2D, iscD, items, begin_, List.map_cons, List.map_nil, List.replicate_succ, List.replicate_zero, List.nil_append, List.cons_append, List.getElem?_cons_zero, List.getElem?_cons_succ, List.set_cons_zero, List.set_cons_succ, Option.bind_some, Option.map_some, Nat.reduceSub, Nat.reduceAdd, Int.toNat_natCast, Bool.not_false, Bool.not_true, okK_none]
            have rl := rI_len M hi
            have rkl := rK_len M hi hk
            refine for_lst (fun j ρ t3 => t3 = t2 ∧ ∃ y10 y13 : Option R, ρ = [some (.v (nD ws.length)), some (.v (tQ ws)), some (.o (.lst ((mid ws.length A i k).map lQ))), y3, some (.v (nD i)), y5, some (.v (Qd (ent A i i))), some (.v (nD k)), y8, y9, y10, some (.v (Qd (ent A k i))), some (.o (.lst (((rK A i k).take j).map Qd))), y13]) ⟨rfl, _, _, rfl⟩ ?_ ?_
            · rintro j d ρ t3 hd ⟨rfl, y10, y13, rfl⟩
              obtain ⟨h1, h2, rfl⟩ := pairsQ_get _ _ _ _ hd
              have xb := M.bit k hk _ (getD_mem h1)
              have yb := rI_bits M hi hpi _ (getD_mem h2)
              have cb := M.ent hk (show i < ws.length + 1 by omega)
              simp only [e_var, v_v, v_o, e_non, e_bl, e_int, e_str, e_nil, e_dnil, e_cons, con_, e_tup, ls_, e_lst, e_bin, e_neg, int_, e_nt, e_and, e_or, e_ife, e_cmp, e_isc, e_call, e_pick, pick_, e_b1, e_b2, e_isin, e_ix, e_slc, e_rng1, e_rng2, e_enm, e_zp, zp_l, zp_t, e_comp, turn_, oc_s, oc_n, cmp_nil, x_asg, x_par, x_sto, sto_, x_app, app_, x_ext, ext_, x_ex, x_pop, pop_, x_popj, x_ret, ret_v, ret_o, ret_k, x_ifs, x_brk, x_cnt, x_pas, sq_b, sq_c, sq_r, x_seq, forB_, x_fr, whlC_, x_whl, okK_some, okK_ite, okK_map, okK_bind, trK_t, trK_f, trK_map, K2_some, K3_some, frz, bindT, wipe, R.d_v, R.d_o, R.d_k, R.st_v, R.st_o, R.st_k, binD, cmpD, truth, isinD, ix_d, ix_l, ix_t, get_d, e_get, e_rev, e_scons, x_par3, aI0, aI1, b1_len_d, b1_int, b1_intb, b1_sorted_d, partD, slcD, b1_len_l, b1_len_t, b1_len_s, b1_abs, b1_all, b1_any, b1_sum, b1_tup_l, b1_tup_t, b1_lst_l, b1_lst_t, b1_max, b1_min, b1_sorted, b2D, iscD, items, begin_, List.map_cons, List.map_nil, List.replicate_succ, List.replicate_zero, List.nil_append, List.cons_append, List.getElem?_cons_zero, List.getElem?_cons_succ, List.set_cons_zero, List.set_cons_succ, Option.bind_some, Option.map_some, Nat.reduceSub, Nat.reduceAdd, Int.toNat_natCast, Bool.not_false, Bool.not_true, okK_none]
              refine ⟨mulM xb.1 cb.den, mulM (mul_le2 xb.1 cb.den) yb.den, mulM cb.1 yb.1, mulM (mul_le2 cb.1 yb.1) xb.den, mulM xb.den cb.den, mulM (mul_le2 xb.den cb.den) yb.den, ?_⟩
              refine s_lfrac n (Int.mul_ne_zero (Int.mul_ne_zero (den_neI _) (den_neI _)) (den_neI _)) (Nat.le_trans (mul_le2 (mul_le2 xb.den cb.den) yb.den) (pow_le2 (by omega))) hW ?_
              rw [q_el]
              simp only [e_var, v_v, v_o, e_non, e_bl, e_int, e_str, e_nil, e_dnil, e_cons, con_, e_tup, ls_, e_lst, e_bin, e_neg, int_, e_nt, e_and, e_or, e_ife, e_cmp, e_isc, e_call, e_pick, pick_, e_b1, e_b2, e_isin, e_ix, e_slc, e_rng1, e_rng2, e_enm, e_zp, zp_l, zp_t, e_comp, turn_, oc_s, oc_n, cmp_nil, x_asg, x_par, x_sto, sto_, x_app, app_, x_ext, ext_, x_ex, x_pop, pop_, x_popj, x_ret, ret_v, ret_o, ret_k, x_ifs, x_brk, x_cnt, x_pas, sq_b, sq_c, sq_r, x_seq, forB_, x_fr, whlC_, x_whl, okK_some, okK_ite, okK_map, okK_bind, trK_t, trK_f, trK_map, K2_some, K3_some, frz, bindT, wipe, R.d_v, R.d_o, R.d_k, R.st_v, R.st_o, R.st_k, binD, cmpD, truth, isinD, ix_d, ix_l, ix_t, get_d, e_get, e_rev, e_scons, x_par3, aI0, aI1, b1_len_d, b1_int, b1_intb, b1_sorted_d, partD, slcD, b1_len_l, b1_len_t, b1_len_s, b1_abs, b1_all, b1_any, b1_sum, b1_tup_l, b1_tup_t, b1_lst_l, b1_lst_t, b1_max, b1_min, b1_sorted, b2D, iscD, items, begin_, List.map_cons, List.map_nil, List.replicate_succ, List.replicate_zero, List.nil_append, List.cons_append, List.getElem?_cons_zero, List.getElem?_cons_succ, List.set_cons_zero, List.set_cons_succ, Option.bind_some, Option.map_some, Nat.reduceSub, Nat.reduceAdd, Int.toNat_natCast, Bool.not_false, Bool.not_true, okK_none]
              have e2 : ((rK A i k).take (j + 1)).map Qd = ((rK A i k).take j).map Qd ++ [Qd ((row A k).getD j 0 - ent A k i * (rI A i).getD j 0)] := by
                rw [rK, zw_take _ h1 h2, List.map_append]
                rfl
              rw [e2]
              exact ⟨(by simp only [List.length_map, List.length_take, sizeLine_eq]; omega), trivial, _, _, rfl⟩
            · rintro ρ t3 ⟨rfl, y10, y13, rfl⟩
              rw [pairs_len, List.length_map, List.length_map, List.take_of_length_le (by omega), sq_n]
              simp only [e_var, v_v, v_o, e_non, e_bl, e_int, e_str, e_nil, e_dnil, e_cons, con_, e_tup, ls_, e_lst, e_bin, e_neg, int_, e_nt, e_and, e_or, e_ife, e_cmp, e_isc, e_call, e_pick, pick_, e_b1, e_b2, e_isin, e_ix, e_slc, e_rng1, e_rng2, e_enm, e_zp, zp_l, zp_t, e_comp, turn_, oc_s, oc_n, cmp_nil, x_asg, x_par, x_sto, sto_, x_app, app_, x_ext, ext_, x_ex, x_pop, pop_, x_popj, x_ret, ret_v, ret_o, ret_k, x_ifs, x_brk, x_cnt, x_pas, sq_b, sq_c, sq_r, x_seq, forB_, x_fr, whlC_, x_whl, okK_some, okK_ite, okK_map, okK_bind, trK_t, trK_f, trK_map, K2_some, K3_some, frz, bindT, wipe, R.d_v, R.d_o, R.d_k, R.st_v, R.st_o, R.st_k, binD, cmpD, truth, isinD, ix_d, ix_l, ix_t, get_d, e_get, e_rev, e_scons, x_par3, aI0, aI1, b1_len_d, b1_int, b1_intb, b1_sorted_d, partD, slcD, b1_len_l, b1_len_t, b1_len_s, b1_abs, b1_all, b1_any, b1_sum, b1_tup_l, b1_tup_t, b1_lst_l, b1_lst_t, b1_max, b1_min, b1_sorted, b2D, iscD, items, begin_, List.map_cons, List.map_nil, List.replicate_succ, List.replicate_zero, List.nil_append, List.cons_append, List.getElem?_cons_zero, List.getElem?_cons_succ, List.set_cons_zero, List.set_cons_succ, Option.bind_some, Option.map_some, Nat.reduceSub, Nat.reduceAdd, Int.toNat_natCast, Bool.not_false, Bool.not_true, okK_none]
              rw [show D.lst ((rK A i k).map Qd) = lQ (rK A i k) from rfl, setL (by omega), okK_some, mid_s hki]
              exact ⟨trivial, _, _, _, _, _, rfl⟩
          · have hki : k = i := by
              have : ((k : Nat) : Int) = ((i : Nat) : Int) := by simpa using h
              omega
            subst hki
            rw [mid_i]
            exact ⟨trivial, _, _, _, _, _, rfl⟩
        · rintro ρ t2 ⟨rfl, y7, y10, y11, y12, y13, rfl⟩
          exact ⟨rfl, _, _, _, _, _, _, _, _, _, _, _, rfl⟩
    · rintro ρ t2 ⟨rfl, y3, y4, y5, y6, y7, y8, y9, y10, y11, y12, y13, rfl⟩
      have M := gj_Mt hb hl ws.length (Nat.le_refl _) hp
      have hAl := M.len
      rw [sq_n]
      simp only [e_var, v_v, v_o, e_non, e_bl, e_int, e_str, e_nil, e_dnil, e_cons, con_, e_tup, ls_, e_lst, e_bin, e_neg, int_, e_nt, e_and, e_or, e_ife, e_cmp, e_isc, e_call, e_pick, pick_, e_b1, e_b2, e_isin, e_ix, e_slc, e_rng1, e_rng2, e_enm, e_zp, zp_l, zp_t, e_comp, turn_, oc_s, oc_n, cmp_nil, x_asg, x_par, x_sto, sto_, x_app, app_, x_ext, ext_, x_ex, x_pop, pop_, x_popj, x_ret, ret_v, ret_o, ret_k, x_ifs, x_brk, x_cnt, x_pas, sq_b, sq_c, sq_r, x_seq, forB_, x_fr, whlC_, x_whl, okK_some, okK_ite, okK_map, okK_bind, trK_t, trK_f, trK_map, K2_some, K3_some, frz, bindT, wipe, R.d_v, R.d_o, R.d_k, R.st_v, R.st_o, R.st_k, binD, cmpD, truth, isinD, ix_d, ix_l, ix_t, get_d, e_get, e_rev, e_scons, x_par3, aI0, aI1, b1_len_d, b1_int, b1_intb, b1_sorted_d, partD, slcD, b1_len_l, b1_len_t, b1_len_s, b1_abs, b1_all, b1_any, b1_sum, b1_tup_l, b1_tup_t, b1_lst_l, b1_lst_t, b1_max, b1_min, b1_sorted, b2D, iscD, items, begin_, List.map_cons, List.map_nil, List.replicate_succ, List.replicate_zero, List.nil_append, List.cons_append, List.getElem?_cons_zero, List.getElem?_cons_succ, List.set_cons_zero, List.set_cons_succ, Option.bind_some, Option.map_some, Nat.reduceSub, Nat.reduceAdd, Int.toNat_natCast, Bool.not_false, Bool.not_true, okK_none, List.length_map]
      refine ⟨by rw [sizeLine_eq]; omega, ?_⟩
      refine cmp_map (fun d => match d with | .lst ds => ds.getD ws.length .non | _ => .non) _ _ (fun d hd => ?_) ?_
      · obtain ⟨l, hl', rfl⟩ := List.mem_map.mp hd
        obtain ⟨k, hk, rfl⟩ := List.getElem_of_mem hl'
        have hr := M.row k (by omega)
        rw [row, List.getD_eq_getElem?_getD, List.getElem?_eq_getElem hk] at hr
        simp only [Option.getD_some] at hr
        generalize (gjA ws ws.length)[k] = l at *
        have hlt : ws.length < l.length := by omega
        have el : l = l.dropLast ++ [l.getD ws.length 0] := by
          have h0 : l ≠ [] := fun z => by rw [z] at hr; simp at hr
          have := (List.dropLast_concat_getLast h0).symm
          rw [List.getLast_eq_getElem] at this
          rw [getD_eq hlt]
          have e : l.length - 1 = ws.length := by omega
          simp only [e] at this
          exact this
        simp only [e_var, v_v, v_o, e_non, e_bl, e_int, e_str, e_nil, e_dnil, e_cons, con_, e_tup, ls_, e_lst, e_bin, e_neg, int_, e_nt, e_and, e_or, e_ife, e_cmp, e_isc, e_call, e_pick, pick_, e_b1, e_b2, e_isin, e_ix, e_slc, e_rng1, e_rng2, e_enm, e_zp, zp_l, zp_t, e_comp, turn_, oc_s, oc_n, cmp_nil, cmp_cons, x_asg, x_par, x_sto, sto_, x_app, app_, x_ext, ext_, x_ex, x_pop, pop_, x_popj, x_ret, ret_v, ret_o, ret_k, x_ifs, x_brk, x_cnt, x_pas, sq_n, sq_b, sq_c, sq_r, x_seq, forB_, x_fr, whlC_, x_whl, okK_some, okK_ite, okK_map, okK_bind, trK_t, trK_f, trK_map, K2_some, K3_some, frz, bindT, wipe, R.d_v, R.d_o, R.d_k, R.st_v, R.st_o, R.st_k, binD, cmpD, truth, isinD, ix_d, ix_l, ix_t, get_d, e_get, e_rev, e_scons, x_par3, aI0, aI1, b1_len_d, b1_int, b1_intb, b1_sorted_d, partD, slcD, b1_len_l, b1_len_t, b1_len_s, b1_abs, b1_all, b1_any, b1_sum, b1_tup_l, b1_tup_t, b1_lst_l, b1_lst_t, b1_max, b1_min, b1_sorted, b2D, iscD, items, begin_, List.map_cons, List.map_nil, List.replicate_succ, List.replicate_zero, List.nil_append, List.cons_append, List.getElem?_cons_zero, List.getElem?_cons_succ, List.set_cons_zero, List.set_cons_succ, Option.bind_some, Option.map_some, Nat.reduceSub, Nat.reduceAdd, Int.toNat_natCast, Bool.not_false, Bool.not_true, okK_none]
        have e2 : L2.atI (l.map Qd) (-1) = some (Qd (l.getD ws.length 0)) := by
          conv => lhs; rw [el, List.map_append]
          exact L2.atI_last _ _
        rw [e2, okK_some]
        refine ⟨?_, trivial⟩
        rw [mapQ_getD hlt]
      · have e1 : ((gjA ws ws.length).map lQ).map (fun d => match d with | .lst ds => ds.getD ws.length .non | _ => .non) = ((gjA ws ws.length).map fun r => r.getD ws.length 0).map Qd := by
          rw [List.map_map, List.map_map]
          refine List.map_congr_left fun l hl' => ?_
          obtain ⟨k, hk, rfl⟩ := List.getElem_of_mem hl'
          have hr := M.row k (by omega)
          rw [row, List.getD_eq_getElem?_getD, List.getElem?_eq_getElem hk] at hr
          simp only [Option.getD_some] at hr
          simp only [Function.comp]
          exact mapQ_getD (by omega)
        rw [e1]
        exact q
end PyI

set_option Elab.async false
set_option linter.all false
set_option maxRecDepth 100000
set_option maxHeartbeats 8000000
/-! .. and give what goes through -/
namespace PyI
open PySem PySem.Spec PyProof.Rows Rw PyData
theorem A0_1 (a : Rat) : A0 [a] = [[1, a]] := rfl
theorem A0_2 (a b : Rat) : A0 [a, b] = [[1, 1, a], [1, 2, b]] := rfl
theorem A0_3 (a b c : Rat) : A0 [a, b, c] = [[1, 1, 1, a], [1, 2, 4, b], [1, 3, 9, c]] := rfl
theorem g1_1 (a : Rat) : mid 1 [[1, a]] 0 1 = [[1, a]] := by
  show [[1 / 1, a / 1]] = _
  simp only [List.cons.injEq, and_true]
  refine ⟨?_, ?_⟩ <;> grind
theorem g2_1 (a b : Rat) : mid 2 [[1, 1, a], [1, 2, b]] 0 2 = [[1, 1, a], [0, 1, b - a]] := by
  show [[1 / 1, 1 / 1, a / 1], [1 - 1 * (1 / 1), 2 - 1 * (1 / 1), b - 1 * (a / 1)]] = _
  simp only [List.cons.injEq, and_true]
  refine ⟨⟨?_, ?_, ?_⟩, ?_, ?_, ?_⟩ <;> grind
theorem g2_2 (a d : Rat) : mid 2 [[1, 1, a], [0, 1, d]] 1 2 = [[1, 0, a - d], [0, 1, d]] := by
  show [[1 - 1 * (0 / 1), 1 - 1 * (1 / 1), a - 1 * (d / 1)], [0 / 1, 1 / 1, d / 1]] = _
  simp only [List.cons.injEq, and_true]
  refine ⟨⟨?_, ?_, ?_⟩, ?_, ?_, ?_⟩ <;> grind
theorem g3_1 (a b c : Rat) : mid 3 [[1, 1, 1, a], [1, 2, 4, b], [1, 3, 9, c]] 0 3 = [[1, 1, 1, a], [0, 1, 3, b - a], [0, 2, 8, c - a]] := by
  show [[1 / 1, 1 / 1, 1 / 1, a / 1], [1 - 1 * (1 / 1), 2 - 1 * (1 / 1), 4 - 1 * (1 / 1), b - 1 * (a / 1)], [1 - 1 * (1 / 1), 3 - 1 * (1 / 1), 9 - 1 * (1 / 1), c - 1 * (a / 1)]] = _
  simp only [List.cons.injEq, and_true]
  refine ⟨⟨?_, ?_, ?_, ?_⟩, ⟨?_, ?_, ?_, ?_⟩, ?_, ?_, ?_, ?_⟩ <;> grind
theorem g3_2 (a d e : Rat) : mid 3 [[1, 1, 1, a], [0, 1, 3, d], [0, 2, 8, e]] 1 3 = [[1, 0, -2, a - d], [0, 1, 3, d], [0, 0, 2, e - 2 * d]] := by
  show [[1 - 1 * (0 / 1), 1 - 1 * (1 / 1), 1 - 1 * (3 / 1), a - 1 * (d / 1)], [0 / 1, 1 / 1, 3 / 1, d / 1], [0 - 2 * (0 / 1), 2 - 2 * (1 / 1), 8 - 2 * (3 / 1), e - 2 * (d / 1)]] = _
  simp only [List.cons.injEq, and_true]
  refine ⟨⟨?_, ?_, ?_, ?_⟩, ⟨?_, ?_, ?_, ?_⟩, ?_, ?_, ?_, ?_⟩ <;> grind
theorem g3_3 (a d e : Rat) : mid 3 [[1, 0, -2, a], [0, 1, 3, d], [0, 0, 2, e]] 2 3 = [[1, 0, 0, a + e], [0, 1, 0, d - 3 * (e / 2)], [0, 0, 1, e / 2]] := by
  show [[1 - -2 * (0 / 2), 0 - -2 * (0 / 2), -2 - -2 * (2 / 2), a - -2 * (e / 2)], [0 - 3 * (0 / 2), 1 - 3 * (0 / 2), 3 - 3 * (2 / 2), d - 3 * (e / 2)], [0 / 2, 0 / 2, 2 / 2, e / 2]] = _
  simp only [List.cons.injEq, and_true]
  refine ⟨⟨?_, ?_, ?_, ?_⟩, ⟨?_, ?_, ?_⟩, ?_, ?_, ?_⟩ <;> grind
theorem solved {ws : List Rat} (h1 : 1 ≤ ws.length) (hl : ws.length ≤ 3) : (∀ j, j < ws.length → ent (gjA ws j) j j ≠ 0) ∧ ((gjA ws ws.length).map fun r => r.getD ws.length 0) = pt ws := by
  match ws, h1, hl with
  | [a], _, _ =>
    have e1 : gjA [a] 1 = [[1, a]] := by
      show mid 1 (A0 [a]) 0 1 = _
      rw [A0_1, g1_1]
    refine ⟨fun j hj => ?_, ?_⟩
    · have : j = 0 := by simpa using hj
      subst this
      show (1 : Rat) ≠ 0
      decide
    · rw [show ([a] : List Rat).length = 1 from rfl, e1]
      refine (pt_uniq (l := [a]) (c := [a]) rfl fun i hi => ?_).symm
      have : i = 0 := by simpa using hi
      subst this
      show a + kq 0 * 0 = a
      grind
  | [a, b], _, _ =>
    have e1 : gjA [a, b] 1 = [[1, 1, a], [0, 1, b - a]] := by
      show mid 2 (A0 [a, b]) 0 2 = _
      rw [A0_2, g2_1]
    have e2 : gjA [a, b] 2 = [[1, 0, a - (b - a)], [0, 1, b - a]] := by
      show mid 2 (gjA [a, b] 1) 1 2 = _
      rw [e1, g2_2]
    refine ⟨fun j hj => ?_, ?_⟩
    · have hj : j < 2 := hj
      rcases j with _ | _ | j
      · show (1 : Rat) ≠ 0
        decide
      · show ent (gjA [a, b] 1) 1 1 ≠ 0
        rw [e1]
        show (1 : Rat) ≠ 0
        decide
      · omega
    · rw [show ([a, b] : List Rat).length = 2 from rfl, e2]
      refine (pt_uniq (l := [a, b]) (c := [a - (b - a), b - a]) rfl fun i hi => ?_).symm
      have hi : i < 2 := hi
      have k0 : kq 0 = 1 := rfl
      have k1 : kq 1 = 2 := rfl
      rcases i with _ | _ | i
      · show (a - (b - a)) + kq 0 * ((b - a) + kq 0 * 0) = a
        rw [k0]; grind
      · show (a - (b - a)) + kq 1 * ((b - a) + kq 1 * 0) = b
        rw [k1]; grind
      · omega
  | [a, b, c], _, _ =>
    have e1 : gjA [a, b, c] 1 = [[1, 1, 1, a], [0, 1, 3, b - a], [0, 2, 8, c - a]] := by
      show mid 3 (A0 [a, b, c]) 0 3 = _
      rw [A0_3, g3_1]
    have e2 : gjA [a, b, c] 2 = [[1, 0, -2, a - (b - a)], [0, 1, 3, b - a], [0, 0, 2, c - a - 2 * (b - a)]] := by
      show mid 3 (gjA [a, b, c] 1) 1 3 = _
      rw [e1, g3_2]
    have e3 := g3_3 (a - (b - a)) (b - a) (c - a - 2 * (b - a))
    have e4 : gjA [a, b, c] 3 = mid 3 (gjA [a, b, c] 2) 2 3 := rfl
    rw [e2, e3] at e4
    refine ⟨fun j hj => ?_, ?_⟩
    · have hj : j < 3 := hj
      rcases j with _ | _ | _ | j
      · show (1 : Rat) ≠ 0
        decide
      · show ent (gjA [a, b, c] 1) 1 1 ≠ 0
        rw [e1]
        show (1 : Rat) ≠ 0
        decide
      · show ent (gjA [a, b, c] 2) 2 2 ≠ 0
        rw [e2]
        show (2 : Rat) ≠ 0
        decide
      · omega
    · rw [show ([a, b, c] : List Rat).length = 3 from rfl, e4]
      refine (pt_uniq (l := [a, b, c]) (c := [a - (b - a) + (c - a - 2 * (b - a)), b - a - 3 * ((c - a - 2 * (b - a)) / 2), (c - a - 2 * (b - a)) / 2]) rfl fun i hi => ?_).symm
      have hi : i < 3 := hi
      have k0 : kq 0 = 1 := rfl
      have k1 : kq 1 = 2 := rfl
      have k2 : kq 2 = 3 := rfl
      rcases i with _ | _ | _ | i
      · show (a - (b - a) + (c - a - 2 * (b - a))) + kq 0 * ((b - a - 3 * ((c - a - 2 * (b - a)) / 2)) + kq 0 * ((c - a - 2 * (b - a)) / 2 + kq 0 * 0)) = a
        rw [k0]; grind
      · show (a - (b - a) + (c - a - 2 * (b - a))) + kq 1 * ((b - a - 3 * ((c - a - 2 * (b - a)) / 2)) + kq 1 * ((c - a - 2 * (b - a)) / 2 + kq 1 * 0)) = b
        rw [k1]; grind
      · show (a - (b - a) + (c - a - 2 * (b - a))) + kq 2 * ((b - a - 3 * ((c - a - 2 * (b - a)) / 2)) + kq 2 * ((c - a - 2 * (b - a)) / 2 + kq 2 * 0)) = c
        rw [k2]; grind
      · omega
end PyI

set_option Elab.async false
set_option linter.all false
set_option maxRecDepth 100000
set_option maxHeartbeats 8000000
/-! whether a table is whole -/
namespace PyI
open PySem PySem.Spec PyProof.Rows Rw PyData
variable {τ : Type} {O : Pk τ} {W : Nat}
theorem s_iswhole (n : Nat) {ls : List (List Rat)} {k w : Nat} {t : τ} (hb : ∀ l ∈ ls, ∀ x ∈ l, bt 2 k x) (hb8 : ∀ l ∈ ls, ∀ x ∈ l, bits 8 x) (hw : ∀ l ∈ ls, l.length = w) (h0 : ls ≠ []) (h1w : 1 ≤ w) (hw3 : w ≤ 3) (hl6 : ls.length ≤ 6) (hk : k ≤ 900) (hW : 2 ^ 8001 ≤ W) {Q : R → τ → Prop}
    (q1 : (∀ e, e < w → inte ls e) → Q (.v (.bl true)) t) (q2 : (∃ e, e < w ∧ ¬ inte ls e) → Q (.v (.bl false)) t) :
    K2 (run O W prog (n + 3) i__law_is_whole [.tup (ls.map tQ)] t) Q := by
  have h1000 : 1000 < W := Nat.lt_of_lt_of_le (by decide +kernel) hW
  refine run_ (fn := f__law_is_whole) rfl rfl ?_
  unfold f__law_is_whole b__law_is_whole
  rw [x_seq]
  simp only [e_var, v_v, v_o, e_non, e_bl, e_int, e_str, e_nil, e_dnil, e_cons, con_, e_tup, ls_, e_lst, e_bin, e_neg, int_, e_nt, e_and, e_or, e_ife, e_cmp, e_isc, e_call, e_pick, pick_, e_b1, e_b2, e_isin, e_ix, e_slc, e_rng1, e_rng2, e_enm, e_zp, zp_l, zp_t, e_comp, turn_, oc_s, oc_n, cmp_nil, x_asg, x_par, x_sto, sto_, x_app, app_, x_ext, ext_, x_ex, x_pop, pop_, x_popj, x_ret, ret_v, ret_o, ret_k, x_ifs, x_brk, x_cnt, x_pas, sq_b, sq_c, sq_r, x_seq, forB_, x_fr, whlC_, x_whl, okK_some, okK_ite, okK_map, okK_bind, trK_t, trK_f, trK_map, K2_some, K3_some, frz, bindT, wipe, R.d_v, R.d_o, R.d_k, R.st_v, R.st_o, R.st_k, binD, cmpD, truth, isinD, ix_d, ix_l, ix_t, get_d, e_get, e_rev, e_scons, x_par3, aI0, aI1, b1_len_d, b1_int, b1_intb, b1_sorted_d, partD, slcD, b1_len_l, b1_len_t, b1_len_s, b1_abs, b1_all, b1_any, b1_sum, b1_tup_l, b1_tup_t, b1_lst_l, b1_lst_t, b1_max, b1_min, b1_sorted, b2D, iscD, items, begin_, List.map_cons, List.map_nil, List.replicate_succ, List.replicate_zero, List.nil_append, List.cons_append, List.getElem?_cons_zero, List.getElem?_cons_succ, List.set_cons_zero, List.set_cons_succ, Option.bind_some, Option.map_some, Nat.reduceSub, Nat.reduceAdd, Int.toNat_natCast, Bool.not_false, Bool.not_true, okK_none, List.length_map]
  refine ⟨by rw [sizeLine_eq]; omega, ?_⟩
  refine cmp_map (fun d => match d with | .tup ds => lQ (pt (ds.map qd)) | _ => .non) _ _ (fun d hd => ?_) ?_
  · obtain ⟨l, hl, rfl⟩ := List.mem_map.mp hd
    obtain ⟨s1, s2⟩ := solved (ws := l) (by rw [hw l hl]; exact h1w) (by rw [hw l hl]; exact hw3)
    simp only [e_var, v_v, v_o, e_non, e_bl, e_int, e_str, e_nil, e_dnil, e_cons, con_, e_tup, ls_, e_lst, e_bin, e_neg, int_, e_nt, e_and, e_or, e_ife, e_cmp, e_isc, e_call, e_pick, pick_, e_b1, e_b2, e_isin, e_ix, e_slc, e_rng1, e_rng2, e_enm, e_zp, zp_l, zp_t, e_comp, turn_, oc_s, oc_n, cmp_nil, cmp_cons, x_asg, x_par, x_sto, sto_, x_app, app_, x_ext, ext_, x_ex, x_pop, pop_, x_popj, x_ret, ret_v, ret_o, ret_k, x_ifs, x_brk, x_cnt, x_pas, sq_n, sq_b, sq_c, sq_r, x_seq, forB_, x_fr, whlC_, x_whl, okK_some, okK_ite, okK_map, okK_bind, trK_t, trK_f, trK_map, K2_some, K3_some, frz, bindT, wipe, R.d_v, R.d_o, R.d_k, R.st_v, R.st_o, R.st_k, binD, cmpD, truth, isinD, ix_d, ix_l, ix_t, get_d, e_get, e_rev, e_scons, x_par3, aI0, aI1, b1_len_d, b1_int, b1_intb, b1_sorted_d, partD, slcD, b1_len_l, b1_len_t, b1_len_s, b1_abs, b1_all, b1_any, b1_sum, b1_tup_l, b1_tup_t, b1_lst_l, b1_lst_t, b1_max, b1_min, b1_sorted, b2D, iscD, items, begin_, List.map_cons, List.map_nil, List.replicate_succ, List.replicate_zero, List.nil_append, List.cons_append, List.getElem?_cons_zero, List.getElem?_cons_succ, List.set_cons_zero, List.set_cons_succ, Option.bind_some, Option.map_some, Nat.reduceSub, Nat.reduceAdd, Int.toNat_natCast, Bool.not_false, Bool.not_true, okK_none, List.length_map]
    refine s_solved n (hb8 l hl) (by rw [hw l hl]; exact hw3) hW s1 ?_
    rw [s2]
    simp only [e_var, v_v, v_o, e_non, e_bl, e_int, e_str, e_nil, e_dnil, e_cons, con_, e_tup, ls_, e_lst, e_bin, e_neg, int_, e_nt, e_and, e_or, e_ife, e_cmp, e_isc, e_call, e_pick, pick_, e_b1, e_b2, e_isin, e_ix, e_slc, e_rng1, e_rng2, e_enm, e_zp, zp_l, zp_t, e_comp, turn_, oc_s, oc_n, cmp_nil, cmp_cons, x_asg, x_par, x_sto, sto_, x_app, app_, x_ext, ext_, x_ex, x_pop, pop_, x_popj, x_ret, ret_v, ret_o, ret_k, x_ifs, x_brk, x_cnt, x_pas, sq_n, sq_b, sq_c, sq_r, x_seq, forB_, x_fr, whlC_, x_whl, okK_some, okK_ite, okK_map, okK_bind, trK_t, trK_f, trK_map, K2_some, K3_some, frz, bindT, wipe, R.d_v, R.d_o, R.d_k, R.st_v, R.st_o, R.st_k, binD, cmpD, truth, isinD, ix_d, ix_l, ix_t, get_d, e_get, e_rev, e_scons, x_par3, aI0, aI1, b1_len_d, b1_int, b1_intb, b1_sorted_d, partD, slcD, b1_len_l, b1_len_t, b1_len_s, b1_abs, b1_all, b1_any, b1_sum, b1_tup_l, b1_tup_t, b1_lst_l, b1_lst_t, b1_max, b1_min, b1_sorted, b2D, iscD, items, begin_, List.map_cons, List.map_nil, List.replicate_succ, List.replicate_zero, List.nil_append, List.cons_append, List.getElem?_cons_zero, List.getElem?_cons_succ, List.set_cons_zero, List.set_cons_succ, Option.bind_some, Option.map_some, Nat.reduceSub, Nat.reduceAdd, Int.toNat_natCast, Bool.not_false, Bool.not_true, okK_none]
    refine ⟨?_, trivial⟩
    rw [List.map_map, show (qd ∘ Qd) = id from funext qd_Q, List.map_id]
  · have e1 : (ls.map tQ).map (fun d => match d with | .tup ds => lQ (pt (ds.map qd)) | _ => .non) = (ls.map pt).map lQ := by
      rw [List.map_map, List.map_map]
      refine List.map_congr_left fun l _ => ?_
      simp only [Function.comp, List.map_map]
      rw [show (qd ∘ Qd) = id from funext qd_Q, List.map_id]
    rw [e1, sq_n, x_seq]
    simp only [e_var, v_v, v_o, e_non, e_bl, e_int, e_str, e_nil, e_dnil, e_cons, con_, e_tup, ls_, e_lst, e_bin, e_neg, int_, e_nt, e_and, e_or, e_ife, e_cmp, e_isc, e_call, e_pick, pick_, e_b1, e_b2, e_isin, e_ix, e_slc, e_rng1, e_rng2, e_enm, e_zp, zp_l, zp_t, e_comp, turn_, oc_s, oc_n, cmp_nil, x_asg, x_par, x_sto, sto_, x_app, app_, x_ext, ext_, x_ex, x_pop, pop_, x_popj, x_ret, ret_v, ret_o, ret_k, x_ifs, x_brk, x_cnt, x_pas, sq_b, sq_c, sq_r, x_seq, forB_, x_fr, whlC_, x_whl, okK_some, okK_ite, okK_map, okK_bind, trK_t, trK_f, trK_map, K2_some, K3_some, frz, bindT, wipe, R.d_v, R.d_o, R.d_k, R.st_v, R.st_o, R.st_k, binD, cmpD, truth, isinD, ix_d, ix_l, ix_t, get_d, e_get, e_rev, e_scons, x_par3, aI0, aI1, b1_len_d, b1_int, b1_intb, b1_sorted_d, partD, slcD, b1_len_l, b1_len_t, b1_len_s, b1_abs, b1_all, b1_any, b1_sum, b1_tup_l, b1_tup_t, b1_lst_l, b1_lst_t, b1_max, b1_min, b1_sorted, b2D, iscD, items, begin_, List.map_cons, List.map_nil, List.replicate_succ, List.replicate_zero, List.nil_append, List.cons_append, List.getElem?_cons_zero, List.getElem?_cons_succ, List.set_cons_zero, List.set_cons_succ, Option.bind_some, Option.map_some, Nat.reduceSub, Nat.reduceAdd, Int.toNat_natCast, Bool.not_false, Bool.not_true, okK_none]
    have at0 : L2.atI ((ls.map pt).map lQ) 0 = some (lQ (pt (ls.getD 0 []))) := by
      cases ls with
      | nil => exact absurd rfl h0
      | cons l r => simp only [List.map_cons, aI0, List.getD_cons_zero]
    have l0 : (ls.getD 0 []).length = w := by
      cases ls with
      | nil => exact absurd rfl h0
      | cons l r => exact hw l (List.mem_cons_self ..)
    rw [at0]
    simp only [e_var, v_v, v_o, e_non, e_bl, e_int, e_str, e_nil, e_dnil, e_cons, con_, e_tup, ls_, e_lst, e_bin, e_neg, int_, e_nt, e_and, e_or, e_ife, e_cmp, e_isc, e_call, e_pick, pick_, e_b1, e_b2, e_isin, e_ix, e_slc, e_rng1, e_rng2, e_enm, e_zp, zp_l, zp_t, e_comp, turn_, oc_s, oc_n, cmp_nil, x_asg, x_par, x_sto, sto_, x_app, app_, x_ext, ext_, x_ex, x_pop, pop_, x_popj, x_ret, ret_v, ret_o, ret_k, x_ifs, x_brk, x_cnt, x_pas, sq_b, sq_c, sq_r, x_seq, forB_, x_fr, whlC_, x_whl, okK_some, okK_ite, okK_map, okK_bind, trK_t, trK_f, trK_map, K2_some, K3_some, frz, bindT, wipe, R.d_v, R.d_o, R.d_k, R.st_v, R.st_o, R.st_k, binD, cmpD, truth, isinD, ix_d, ix_l, ix_t, get_d, e_get, e_rev, e_scons, x_par3, aI0, aI1, b1_len_d, b1_int, b1_intb, b1_sorted_d, partD, slcD, b1_len_l, b1_len_t, b1_len_s, b1_abs, b1_all, b1_any, b1_sum, b1_tup_l, b1_tup_t, b1_lst_l, b1_lst_t, b1_max, b1_min, b1_sorted, b2D, iscD, items, begin_, List.map_cons, List.map_nil, List.replicate_succ, List.replicate_zero, List.nil_append, List.cons_append, List.getElem?_cons_zero, List.getElem?_cons_succ, List.set_cons_zero, List.set_cons_succ, Option.bind_some, Option.map_some, Nat.reduceSub, Nat.reduceAdd, Int.toNat_natCast, Bool.not_false, Bool.not_true, okK_none, List.length_map, pt_len, l0]
    refine ⟨by constructor <;> omega, ?_⟩
    refine for_rng (fun i ρ t' => t' = t ∧ (∀ e, e < i → inte ls e) ∧ ∃ (y1 : R) (y2 y3 y4 y5 y6 : Option R), (y1 = .o (.lst ((ls.map pt).map lQ)) ∨ y1 = .v (.lst ((ls.map pt).map lQ))) ∧ ρ = [some (.v (.tup (ls.map tQ))), some y1, y2, y3, y4, y5, y6]) ⟨rfl, by simp, _, none, none, none, none, none, .inl rfl, rfl⟩ ?_ ?_
    · rintro i ρ t' hi ⟨rfl, hint, y1, y2, y3, y4, y5, y6, hy1, rfl⟩
      have fz : ∀ (a b c d e f : Option R), frz [a, some y1, b, c, d, e, f] [1] = [a, some (.v (.lst ((ls.map pt).map lQ))), b, c, d, e, f] := fun a b c d e f => by
        rcases hy1 with rfl | rfl <;> rfl
      rw [show ((0 : Int) + (i : Nat)) = ((i : Nat) : Int) by omega, forB_]
      simp only [bindT, okK_some, List.set_cons_succ, List.set_cons_zero]
      rw [x_seq, x_asg, fz]
      simp only [e_var, v_v, v_o, e_non, e_bl, e_int, e_str, e_nil, e_dnil, e_cons, con_, e_tup, ls_, e_lst, e_bin, e_neg, int_, e_nt, e_and, e_or, e_ife, e_cmp, e_isc, e_call, e_pick, pick_, e_b1, e_b2, e_isin, e_ix, e_slc, e_rng1, e_rng2, e_enm, e_zp, zp_l, zp_t, e_comp, turn_, oc_s, oc_n, cmp_nil, x_asg, x_par, x_sto, sto_, x_app, app_, x_ext, ext_, x_ex, x_pop, pop_, x_popj, x_ret, ret_v, ret_o, ret_k, x_ifs, x_brk, x_cnt, x_pas, sq_b, sq_c, sq_r, x_seq, forB_, x_fr, whlC_, x_whl, okK_some, okK_ite, okK_map, okK_bind, trK_t, trK_f, trK_map, K2_some, K3_some, frz, bindT, wipe, R.d_v, R.d_o, R.d_k, R.st_v, R.st_o, R.st_k, binD, cmpD, truth, isinD, ix_d, ix_l, ix_t, get_d, e_get, e_rev, e_scons, x_par3, aI0, aI1, b1_len_d, b1_int, b1_intb, b1_sorted_d, partD, slcD, b1_len_l, b1_len_t, b1_len_s, b1_abs, b1_all, b1_any, b1_sum, b1_tup_l, b1_tup_t, b1_lst_l, b1_lst_t, b1_max, b1_min, b1_sorted, b2D, iscD, items, begin_, List.map_cons, List.map_nil, List.replicate_succ, List.replicate_zero, List.nil_append, List.cons_append, List.getElem?_cons_zero, List.getElem?_cons_succ, List.set_cons_zero, List.set_cons_succ, Option.bind_some, Option.map_some, Nat.reduceSub, Nat.reduceAdd, Int.toNat_natCast, Bool.not_false, Bool.not_true, okK_none, List.length_map]
      refine ⟨by rw [sizeLine_eq]; omega, ?_⟩
      refine cmp_map (fun d => match d with | .lst ds => ds.getD i .non | _ => .non) _ _ (fun d hd => ?_) ?_
      · obtain ⟨l', hl', rfl⟩ := List.mem_map.mp hd
        obtain ⟨l, hl, rfl⟩ := List.mem_map.mp hl'
        have hlt : i < (pt l).length := by rw [pt_len, hw l hl]; exact hi
        simp only [e_var, v_v, v_o, e_non, e_bl, e_int, e_str, e_nil, e_dnil, e_cons, con_, e_tup, ls_, e_lst, e_bin, e_neg, int_, e_nt, e_and, e_or, e_ife, e_cmp, e_isc, e_call, e_pick, pick_, e_b1, e_b2, e_isin, e_ix, e_slc, e_rng1, e_rng2, e_enm, e_zp, zp_l, zp_t, e_comp, turn_, oc_s, oc_n, cmp_nil, cmp_cons, x_asg, x_par, x_sto, sto_, x_app, app_, x_ext, ext_, x_ex, x_pop, pop_, x_popj, x_ret, ret_v, ret_o, ret_k, x_ifs, x_brk, x_cnt, x_pas, sq_n, sq_b, sq_c, sq_r, x_seq, forB_, x_fr, whlC_, x_whl, okK_some, okK_ite, okK_map, okK_bind, trK_t, trK_f, trK_map, K2_some, K3_some, frz, bindT, wipe, R.d_v, R.d_o, R.d_k, R.st_v, R.st_o, R.st_k, binD, cmpD, truth, isinD, ix_d, ix_l, ix_t, get_d, e_get, e_rev, e_scons, x_par3, aI0, aI1, b1_len_d, b1_int, b1_intb, b1_sorted_d, partD, slcD, b1_len_l, b1_len_t, b1_len_s, b1_abs, b1_all, b1_any, b1_sum, b1_tup_l, b1_tup_t, b1_lst_l, b1_lst_t, b1_max, b1_min, b1_sorted, b2D, iscD, items, begin_, List.map_cons, List.map_nil, List.replicate_succ, List.replicate_zero, List.nil_append, List.cons_append, List.getElem?_cons_zero, List.getElem?_cons_succ, List.set_cons_zero, List.set_cons_succ, Option.bind_some, Option.map_some, Nat.reduceSub, Nat.reduceAdd, Int.toNat_natCast, Bool.not_false, Bool.not_true, okK_none]
        rw [atQ hlt, okK_some]
        refine ⟨?_, trivial⟩
        rw [mapQ_getD hlt]
      · have e2 : ((ls.map pt).map lQ).map (fun d => match d with | .lst ds => ds.getD i .non | _ => .non) = (col ls i).map Qd := by
          rw [List.map_map, List.map_map, col, List.map_map]
          refine List.map_congr_left fun l hl => ?_
          have hlt : i < (pt l).length := by rw [pt_len, hw l hl]; exact hi
          exact mapQ_getD hlt
        rw [e2]
        have cl : (col ls i).length = ls.length := by rw [col, List.length_map]
        have cb := col_bt hb hw (by omega) i hi
        rw [sq_n, x_whl]
        refine whl_inv (fun m ρ u => u = t' ∧ ∃ (l' f : List Rat) (y4 y5 y6 : Option R), l'.length = m ∧ f.length + m ≤ ls.length ∧ f ++ stQ l'.length l' = sc ls i ∧ (∀ c ∈ f, c.den = 1) ∧ (∀ x ∈ l', bt 1440 (k + 40 + f.length) x) ∧ ρ = [some (.v (.tup (ls.map tQ))), some (.v (.lst ((ls.map pt).map lQ))), some (.v (nD i)), some (.o (.lst (l'.map Qd))), y4, y5, y6]) W ls.length _ _ (by omega) ⟨rfl, col ls i, [], _, _, _, cl, by simp, by rw [cl]; rfl, by simp, cb, rfl⟩ ?_
        rintro m ρ u ⟨rfl, l', f, y4, y5, y6, rfl, hf, he, hfd, hb', rfl⟩
        simp only [e_var, v_v, v_o, e_non, e_bl, e_int, e_str, e_nil, e_dnil, e_cons, con_, e_tup, ls_, e_lst, e_bin, e_neg, int_, e_nt, e_and, e_or, e_ife, e_cmp, e_isc, e_call, e_pick, pick_, e_b1, e_b2, e_isin, e_ix, e_slc, e_rng1, e_rng2, e_enm, e_zp, zp_l, zp_t, e_comp, turn_, oc_s, oc_n, cmp_nil, x_asg, x_par, x_sto, sto_, x_app, app_, x_ext, ext_, x_ex, x_pop, pop_, x_popj, x_ret, ret_v, ret_o, ret_k, x_ifs, x_brk, x_cnt, x_pas, sq_b, sq_c, sq_r, x_seq, forB_, x_fr, whlC_, x_whl, okK_some, okK_ite, okK_map, okK_bind, trK_t, trK_f, trK_map, K2_some, K3_some, frz, bindT, wipe, R.d_v, R.d_o, R.d_k, R.st_v, R.st_o, R.st_k, binD, cmpD, truth, isinD, ix_d, ix_l, ix_t, get_d, e_get, e_rev, e_scons, x_par3, aI0, aI1, b1_len_d, b1_int, b1_intb, b1_sorted_d, partD, slcD, b1_len_l, b1_len_t, b1_len_s, b1_abs, b1_all, b1_any, b1_sum, b1_tup_l, b1_tup_t, b1_lst_l, b1_lst_t, b1_max, b1_min, b1_sorted, b2D, iscD, items, begin_, List.map_cons, List.map_nil, List.replicate_succ, List.replicate_zero, List.nil_append, List.cons_append, List.getElem?_cons_zero, List.getElem?_cons_succ, List.set_cons_zero, List.set_cons_succ, Option.bind_some, Option.map_some, Nat.reduceSub, Nat.reduceAdd, Int.toNat_natCast, Bool.not_false, Bool.not_true, okK_none, eq_Ql_nil, List.length_nil]
        refine ⟨Nat.zero_le _, ?_⟩
        cases l' with
        | nil =>
          refine ⟨(fun z => by simp at z), fun _ => ?_⟩
          have hin : inte ls i := by
            have : f = sc ls i := by rw [← he]; simp [stQ]
            intro c hc
            rw [← this] at hc
            exact hfd c hc
          refine ⟨trivial, fun e he => ?_, _, _, _, _, _, _, .inr rfl, rfl⟩
          by_cases z : e = i
          · rw [z]; exact hin
          · exact hint e (by omega)
        | cons x r =>
          refine ⟨fun _ => ?_, (fun z => by simp at z)⟩
          simp only [List.map_cons, e_var, v_v, v_o, e_non, e_bl, e_int, e_str, e_nil, e_dnil, e_cons, con_, e_tup, ls_, e_lst, e_bin, e_neg, int_, e_nt, e_and, e_or, e_ife, e_cmp, e_isc, e_call, e_pick, pick_, e_b1, e_b2, e_isin, e_ix, e_slc, e_rng1, e_rng2, e_enm, e_zp, zp_l, zp_t, e_comp, turn_, oc_s, oc_n, cmp_nil, x_asg, x_par, x_sto, sto_, x_app, app_, x_ext, ext_, x_ex, x_pop, pop_, x_popj, x_ret, ret_v, ret_o, ret_k, x_ifs, x_brk, x_cnt, x_pas, sq_b, sq_c, sq_r, x_seq, forB_, x_fr, whlC_, x_whl, okK_some, okK_ite, okK_map, okK_bind, trK_t, trK_f, trK_map, K2_some, K3_some, frz, bindT, wipe, R.d_v, R.d_o, R.d_k, R.st_v, R.st_o, R.st_k, binD, cmpD, truth, isinD, ix_d, ix_l, ix_t, get_d, e_get, e_rev, e_scons, x_par3, aI0, aI1, b1_len_d, b1_int, b1_intb, b1_sorted_d, partD, slcD, b1_len_l, b1_len_t, b1_len_s, b1_abs, b1_all, b1_any, b1_sum, b1_tup_l, b1_tup_t, b1_lst_l, b1_lst_t, b1_max, b1_min, b1_sorted, b2D, iscD, items, begin_, List.map_cons, List.map_nil, List.replicate_succ, List.replicate_zero, List.nil_append, List.cons_append, List.getElem?_cons_zero, List.getElem?_cons_succ, List.set_cons_zero, List.set_cons_succ, Option.bind_some, Option.map_some, Nat.reduceSub, Nat.reduceAdd, Int.toNat_natCast, Bool.not_false, Bool.not_true, okK_none, eq_int]
          simp only [List.length_cons] at hf
          have xin : x ∈ sc ls i := by rw [← he]; exact List.mem_append_right _ (by simp [stQ])
          refine trK_b.mpr ⟨fun h => ?_, fun h => ?_⟩
          · refine q2 ⟨i, hi, fun hin => ?_⟩
            have := hin x xin
            rw [this] at h
            simp at h
          · have hx1 : x.den = 1 := by
              have : ((x.den : Int) == 1) = true := by simpa using h
              have : (x.den : Int) = 1 := by simpa using this
              omega
            rw [sq_n]
            simp only [e_var, v_v, v_o, e_non, e_bl, e_int, e_str, e_nil, e_dnil, e_cons, con_, e_tup, ls_, e_lst, e_bin, e_neg, int_, e_nt, e_and, e_or, e_ife, e_cmp, e_isc, e_call, e_pick, pick_, e_b1, e_b2, e_isin, e_ix, e_slc, e_rng1, e_rng2, e_enm, e_zp, zp_l, zp_t, e_comp, turn_, oc_s, oc_n, cmp_nil, x_asg, x_par, x_sto, sto_, x_app, app_, x_ext, ext_, x_ex, x_pop, pop_, x_popj, x_ret, ret_v, ret_o, ret_k, x_ifs, x_brk, x_cnt, x_pas, sq_b, sq_c, sq_r, x_seq, forB_, x_fr, whlC_, x_whl, okK_some, okK_ite, okK_map, okK_bind, trK_t, trK_f, trK_map, K2_some, K3_some, frz, bindT, wipe, R.d_v, R.d_o, R.d_k, R.st_v, R.st_o, R.st_k, binD, cmpD, truth, isinD, ix_d, ix_l, ix_t, get_d, e_get, e_rev, e_scons, x_par3, aI0, aI1, b1_len_d, b1_int, b1_intb, b1_sorted_d, partD, slcD, b1_len_l, b1_len_t, b1_len_s, b1_abs, b1_all, b1_any, b1_sum, b1_tup_l, b1_tup_t, b1_lst_l, b1_lst_t, b1_max, b1_min, b1_sorted, b2D, iscD, items, begin_, List.map_cons, List.map_nil, List.replicate_succ, List.replicate_zero, List.nil_append, List.cons_append, List.getElem?_cons_zero, List.getElem?_cons_succ, List.set_cons_zero, List.set_cons_succ, Option.bind_some, Option.map_some, Nat.reduceSub, Nat.reduceAdd, Int.toNat_natCast, Bool.not_false, Bool.not_true, okK_none]
            rw [show cut (Qd x :: r.map Qd) (some 1) none = (Qd x :: r.map Qd).drop 1 from cut_from _ 1]
            refine ⟨?_, ?_⟩
            · rw [pairs_len, sizeLine_eq]
              simp
              omega
            refine cmp_map (gS2 fun a b => b - a) _ _ (fun d hd => ?_) ?_
            · obtain ⟨a, b, rfl, ha, hb2⟩ := pairsQ_mem (x :: r) r d hd
              have ba := bt_bits (k := k + 46) (by omega) (Nat.le_trans (show 1440 ≤ 2 ^ 46 by decide) (pow_le2 (by omega))) ((hb' a ha).mono (by omega))
              have bb := bt_bits (k := k + 46) (by omega) (Nat.le_trans (show 1440 ≤ 2 ^ 46 by decide) (pow_le2 (by omega))) ((hb' b (List.mem_cons_of_mem _ hb2)).mono (by omega))
              simp only [e_var, v_v, v_o, e_non, e_bl, e_int, e_str, e_nil, e_dnil, e_cons, con_, e_tup, ls_, e_lst, e_bin, e_neg, int_, e_nt, e_and, e_or, e_ife, e_cmp, e_isc, e_call, e_pick, pick_, e_b1, e_b2, e_isin, e_ix, e_slc, e_rng1, e_rng2, e_enm, e_zp, zp_l, zp_t, e_comp, turn_, oc_s, oc_n, cmp_nil, cmp_cons, x_asg, x_par, x_sto, sto_, x_app, app_, x_ext, ext_, x_ex, x_pop, pop_, x_popj, x_ret, ret_v, ret_o, ret_k, x_ifs, x_brk, x_cnt, x_pas, sq_n, sq_b, sq_c, sq_r, x_seq, forB_, x_fr, whlC_, x_whl, okK_some, okK_ite, okK_map, okK_bind, trK_t, trK_f, trK_map, K2_some, K3_some, frz, bindT, wipe, R.d_v, R.d_o, R.d_k, R.st_v, R.st_o, R.st_k, binD, cmpD, truth, isinD, ix_d, ix_l, ix_t, get_d, e_get, e_rev, e_scons, x_par3, aI0, aI1, b1_len_d, b1_int, b1_intb, b1_sorted_d, partD, slcD, b1_len_l, b1_len_t, b1_len_s, b1_abs, b1_all, b1_any, b1_sum, b1_tup_l, b1_tup_t, b1_lst_l, b1_lst_t, b1_max, b1_min, b1_sorted, b2D, iscD, items, begin_, List.map_cons, List.map_nil, List.replicate_succ, List.replicate_zero, List.nil_append, List.cons_append, List.getElem?_cons_zero, List.getElem?_cons_succ, List.set_cons_zero, List.set_cons_succ, Option.bind_some, Option.map_some, Nat.reduceSub, Nat.reduceAdd, Int.toNat_natCast, Bool.not_false, Bool.not_true, okK_none]
              refine ⟨mulM bb.1 ba.den, mulM ba.1 bb.den, mulM ba.den bb.den, ?_⟩
              refine s_lfrac (n + 1) (Int.mul_ne_zero (den_neI _) (den_neI _)) (Nat.le_trans (mul_le2 ba.den bb.den) (pow_le2 (by omega))) hW ?_
              rw [Int.mul_comm (a.den : Int) (b.den : Int), q_sub]
              simp only [e_var, v_v, v_o, e_non, e_bl, e_int, e_str, e_nil, e_dnil, e_cons, con_, e_tup, ls_, e_lst, e_bin, e_neg, int_, e_nt, e_and, e_or, e_ife, e_cmp, e_isc, e_call, e_pick, pick_, e_b1, e_b2, e_isin, e_ix, e_slc, e_rng1, e_rng2, e_enm, e_zp, zp_l, zp_t, e_comp, turn_, oc_s, oc_n, cmp_nil, cmp_cons, x_asg, x_par, x_sto, sto_, x_app, app_, x_ext, ext_, x_ex, x_pop, pop_, x_popj, x_ret, ret_v, ret_o, ret_k, x_ifs, x_brk, x_cnt, x_pas, sq_n, sq_b, sq_c, sq_r, x_seq, forB_, x_fr, whlC_, x_whl, okK_some, okK_ite, okK_map, okK_bind, trK_t, trK_f, trK_map, K2_some, K3_some, frz, bindT, wipe, R.d_v, R.d_o, R.d_k, R.st_v, R.st_o, R.st_k, binD, cmpD, truth, isinD, ix_d, ix_l, ix_t, get_d, e_get, e_rev, e_scons, x_par3, aI0, aI1, b1_len_d, b1_int, b1_intb, b1_sorted_d, partD, slcD, b1_len_l, b1_len_t, b1_len_s, b1_abs, b1_all, b1_any, b1_sum, b1_tup_l, b1_tup_t, b1_lst_l, b1_lst_t, b1_max, b1_min, b1_sorted, b2D, iscD, items, begin_, List.map_cons, List.map_nil, List.replicate_succ, List.replicate_zero, List.nil_append, List.cons_append, List.getElem?_cons_zero, List.getElem?_cons_succ, List.set_cons_zero, List.set_cons_succ, Option.bind_some, Option.map_some, Nat.reduceSub, Nat.reduceAdd, Int.toNat_natCast, Bool.not_false, Bool.not_true, okK_none]
              exact ⟨by simp only [gS2, qd_Q], trivial⟩
            · have e := dif_map (x :: r)
              simp only [List.map_cons] at e
              rw [e]
              refine ⟨(difQ (x :: r)).length, by rw [difQ_len]; simp, rfl, difQ (x :: r), f ++ [x], _, _, _, rfl, ?_, ?_, ?_, ?_, rfl⟩
              · rw [difQ_len]; simp; omega
              · rw [← he, List.append_assoc]
                congr 1
                rw [difQ_len]
                rfl
              · intro c hc
                rcases List.mem_append.mp hc with h | h
                · exact hfd c h
                · rw [List.mem_singleton] at h; rw [h]; exact hx1
              · intro y hy
                rw [List.length_append, List.length_singleton]
                exact difQ_bt hb' y hy
    · rintro ρ t' ⟨rfl, hint, y1, y2, y3, y4, y5, y6, hy1, rfl⟩
      rw [sq_n]
      simp only [e_var, v_v, v_o, e_non, e_bl, e_int, e_str, e_nil, e_dnil, e_cons, con_, e_tup, ls_, e_lst, e_bin, e_neg, int_, e_nt, e_and, e_or, e_ife, e_cmp, e_isc, e_call, e_pick, pick_, e_b1, e_b2, e_isin, e_ix, e_slc, e_rng1, e_rng2, e_enm, e_zp, zp_l, zp_t, e_comp, turn_, oc_s, oc_n, cmp_nil, x_asg, x_par, x_sto, sto_, x_app, app_, x_ext, ext_, x_ex, x_pop, pop_, x_popj, x_ret, ret_v, ret_o, ret_k, x_ifs, x_brk, x_cnt, x_pas, sq_b, sq_c, sq_r, x_seq, forB_, x_fr, whlC_, x_whl, okK_some, okK_ite, okK_map, okK_bind, trK_t, trK_f, trK_map, K2_some, K3_some, frz, bindT, wipe, R.d_v, R.d_o, R.d_k, R.st_v, R.st_o, R.st_k, binD, cmpD, truth, isinD, ix_d, ix_l, ix_t, get_d, e_get, e_rev, e_scons, x_par3, aI0, aI1, b1_len_d, b1_int, b1_intb, b1_sorted_d, partD, slcD, b1_len_l, b1_len_t, b1_len_s, b1_abs, b1_all, b1_any, b1_sum, b1_tup_l, b1_tup_t, b1_lst_l, b1_lst_t, b1_max, b1_min, b1_sorted, b2D, iscD, items, begin_, List.map_cons, List.map_nil, List.replicate_succ, List.replicate_zero, List.nil_append, List.cons_append, List.getElem?_cons_zero, List.getElem?_cons_succ, List.set_cons_zero, List.set_cons_succ, Option.bind_some, Option.map_some, Nat.reduceSub, Nat.reduceAdd, Int.toNat_natCast, Bool.not_false, Bool.not_true, okK_none]
      exact q1 hint
end PyI

set_option Elab.async false
set_option linter.all false
set_option maxRecDepth 100000
set_option maxHeartbeats 8000000
/-! the law runs to True -/
namespace PyI
open PySem PySem.Spec PyProof.Rows Rw PyData
variable {τ : Type} {O : Pk τ} {W : Nat}
abbrev pA (Z : S) : S := (.seq (.par3 [1] 5 6 7 (.call 22 (.cons (.var 1) (.cons (.int 4) (.cons (.int 3) (.nil))))) (.bin .add (.int 4) (.pick (.var 1) (.int 3))) (.bin .add (.int 3) (.pick (.var 1) (.int 2)))) (.seq (.asg [5] (.var 3) (.b1 .tuple (.comp [10] (.b1 .tuple (.comp [11] (.call 23 (.cons (.var 5) (.cons (.var 10) (.cons (.tup (.cons (.var 11) (.cons (.int 1) (.nil)))) (.nil))))) (.var 11) (.rng2 (.int 1) (.bin .add (.var 6) (.int 1))) (.bl true))) (.var 10) (.rng1 (.var 7)) (.bl true)))) (.seq (.ifs [3] (.cmp .ne (.b1 .repr (.call 16 (.cons (.var 3) (.nil)))) (.b1 .repr (.var 5))) (.ret [] (.bl false)) (.pas)) Z)))
abbrev pT : S := (.seq (.ifs [8] (.or_ (.isc true (.call 12 (.cons (.var 8) (.nil))) (some true)) (.cmp .ge (.b1 .max (.bin .add (.comp [12, 13] (.var 12) (.tup (.cons (.var 12) (.cons (.var 13) (.nil)))) (.var 8) (.bl true)) (.lst (.cons (.int 0) (.nil))))) (.var 6))) (.ret [] (.bl false)) (.pas)) (.seq (.ifs [8] (.cmp .gt (.b1 .max (.bin .add (.comp [12, 13] (.b1 .len (.var 13)) (.tup (.cons (.var 12) (.cons (.var 13) (.nil)))) (.var 8) (.bl true)) (.lst (.cons (.int 0) (.nil))))) (.var 7)) (.ret [] (.bl false)) (.pas)) (.fr [] (.var 10) (.rng1 (.var 7)) (.ifs [8, 10] (.cmp .ne (.comp [11] (.call 13 (.cons (.var 8) (.cons (.var 10) (.cons (.tup (.cons (.var 11) (.cons (.int 1) (.nil)))) (.nil))))) (.var 11) (.rng2 (.int 1) (.bin .add (.var 6) (.int 1))) (.bl true)) (.b1 .list (.ix (.var 3) (.var 10)))) (.ret [] (.bl false)) (.pas)))))
abbrev pB : S := (.seq (.par [1] 6 7 (.bin .add (.int 1) (.pick (.var 1) (.int 3))) (.bin .add (.int 1) (.pick (.var 1) (.int 3)))) (.seq (.asg [1] (.var 4) (.lst (.cons (.tup (.cons (.int 0) (.cons (.int 1) (.nil)))) (.cons (.tup (.cons (.int 0) (.cons (.int 1) (.nil)))) (.cons (.tup (.cons (.int 2) (.cons (.int 1) (.nil)))) (.cons (.tup (.cons (.neg (.int 2)) (.cons (.int 1) (.nil)))) (.cons (.tup (.cons (.int 4) (.cons (.int 1) (.nil)))) (.cons (.tup (.cons (.int 6) (.cons (.int 1) (.nil)))) (.cons (.call 17 (.cons (.var 1) (.cons (.lst (.cons (.tup (.cons (.int 1) (.cons (.int 1) (.nil)))) (.cons (.tup (.cons (.int 1) (.cons (.int 2) (.nil)))) (.cons (.tup (.cons (.int 12) (.cons (.int 1) (.nil)))) (.nil))))) (.nil)))) (.nil)))))))))) (.seq (.asg [1, 4] (.var 3) (.b1 .tuple (.comp [10] (.b1 .tuple (.comp [11] (.call 17 (.cons (.var 1) (.cons (.var 4) (.nil)))) (.var 11) (.rng1 (.var 6)) (.bl true))) (.var 10) (.rng1 (.var 7)) (.bl true)))) (.seq (.par [3] 8 9 (.call 16 (.cons (.var 3) (.nil))) (.b1 .repr (.var 3))) (.seq (.ifs [3] (.or_ (.cmp .ne (.isc true (.var 8) none) (.call 25 (.cons (.var 3) (.nil)))) (.cmp .ne (.b1 .repr (.var 3)) (.var 9))) (.ret [] (.bl false)) (.pas)) (.ifs [] (.isc true (.var 8) none) pT (.pas)))))))
abbrev pR : S := (.ret [] (.and_ (.isc false (.call 16 (.cons (.tup (.cons (.tup (.cons (.tup (.cons (.int 1) (.cons (.int 2) (.nil)))) (.nil))) (.nil))) (.nil))) none) (.and_ (.cmp .eq (.call 16 (.cons (.tup (.cons (.tup (.cons (.tup (.cons (.int 0) (.cons (.int 1) (.nil)))) (.nil))) (.nil))) (.nil))) (.tup (.nil))) (.cmp .eq (.call 16 (.cons (.tup (.nil)) (.nil))) (.tup (.nil))))))
theorem pick_k (hO : PkOk O) (t : τ) (m : Nat) (hm : 1 ≤ m) : ∃ j : Nat, (O t (m : Int)).1 = (j : Int) ∧ j < m := by
  obtain ⟨h1, h2⟩ := hO t (m : Int) (by omega)
  exact ⟨(O t (m : Int)).1.toNat, by omega, by omega⟩
theorem kq_D (i : Nat) : D.tup [.int ((1 : Int) + (i : Nat)), .int 1] = Qd (kq i) := by rw [Qd_kq, Int.add_comm]
theorem s_pA (n : Nat) (hO : PkOk O) (hW : 2 ^ 8001 ≤ W) {Z : S} {y2 y3 y4 y5 y6 y7 y8 y9 y10 y11 y12 y13 : Option R} {u : τ} {kk : Out → Rho → τ → Prop}
    (q : ∀ y3 y5 y6 y7 u, exK O (run O W prog (n + 5)) W Z [none, some (.v .src), y2, y3, y4, y5, y6, y7, y8, y9, y10, y11, y12, y13] u kk) :
    exK O (run O W prog (n + 5)) W (pA Z) [none, some (.v .src), y2, y3, y4, y5, y6, y7, y8, y9, y10, y11, y12, y13] u kk := by
  have h1000 : 1000 < W := Nat.lt_of_lt_of_le (by decide +kernel) hW
  unfold pA
  rw [x_seq]
  simp only [e_var, v_v, v_o, e_non, e_bl, e_int, e_str, e_nil, e_dnil, e_cons, con_, e_tup, ls_, e_lst, e_bin, e_neg, int_, e_nt, e_and, e_or, e_ife, e_cmp, e_isc, e_call, e_pick, pick_, e_b1, e_b2, e_isin, e_ix, e_slc, e_rng1, e_rng2, e_enm, e_zp, zp_l, zp_t, e_comp, turn_, oc_s, oc_n, cmp_nil, cmp_cons, x_asg, x_par, x_sto, sto_, x_app, app_, x_ext, ext_, x_ex, x_pop, pop_, x_popj, x_ret, ret_v, ret_o, ret_k, x_ifs, x_brk, x_cnt, x_pas, sq_b, sq_c, sq_r, x_seq, forB_, x_fr, whlC_, x_whl, okK_some, okK_ite, okK_map, okK_bind, trK_t, trK_f, trK_map, K2_some, K3_some, frz, bindT, wipe, R.d_v, R.d_o, R.d_k, R.st_v, R.st_o, R.st_k, binD, cmpD, truth, isinD, ix_d, ix_l, ix_t, get_d, e_get, e_rev, e_scons, x_par3, aI0, aI1, b1_len_d, b1_int, b1_intb, b1_sorted_d, partD, slcD, b1_len_l, b1_len_t, b1_len_s, b1_abs, b1_all, b1_any, b1_sum, b1_tup_l, b1_tup_t, b1_lst_l, b1_lst_t, b1_max, b1_min, b1_sorted, b2D, iscD, items, begin_, List.map_cons, List.map_nil, List.replicate_succ, List.replicate_zero, List.nil_append, List.cons_append, List.getElem?_cons_zero, List.getElem?_cons_succ, List.set_cons_zero, List.set_cons_succ, Option.bind_some, Option.map_some, Nat.reduceSub, Nat.reduceAdd, Int.toNat_natCast, Bool.not_false, Bool.not_true, okK_none]
  refine s_ldrawn (n + 2) hO h1000 (p := 4) (m := 3) (by omega) (by omega) (by omega) fun a ca la ba u1 => ?_
  simp only [e_var, v_v, v_o, e_non, e_bl, e_int, e_str, e_nil, e_dnil, e_cons, con_, e_tup, ls_, e_lst, e_bin, e_neg, int_, e_nt, e_and, e_or, e_ife, e_cmp, e_isc, e_call, e_pick, pick_, e_b1, e_b2, e_isin, e_ix, e_slc, e_rng1, e_rng2, e_enm, e_zp, zp_l, zp_t, e_comp, turn_, oc_s, oc_n, cmp_nil, cmp_cons, x_asg, x_par, x_sto, sto_, x_app, app_, x_ext, ext_, x_ex, x_pop, pop_, x_popj, x_ret, ret_v, ret_o, ret_k, x_ifs, x_brk, x_cnt, x_pas, sq_b, sq_c, sq_r, x_seq, forB_, x_fr, whlC_, x_whl, okK_some, okK_ite, okK_map, okK_bind, trK_t, trK_f, trK_map, K2_some, K3_some, frz, bindT, wipe, R.d_v, R.d_o, R.d_k, R.st_v, R.st_o, R.st_k, binD, cmpD, truth, isinD, ix_d, ix_l, ix_t, get_d, e_get, e_rev, e_scons, x_par3, aI0, aI1, b1_len_d, b1_int, b1_intb, b1_sorted_d, partD, slcD, b1_len_l, b1_len_t, b1_len_s, b1_abs, b1_all, b1_any, b1_sum, b1_tup_l, b1_tup_t, b1_lst_l, b1_lst_t, b1_max, b1_min, b1_sorted, b2D, iscD, items, begin_, List.map_cons, List.map_nil, List.replicate_succ, List.replicate_zero, List.nil_append, List.cons_append, List.getElem?_cons_zero, List.getElem?_cons_succ, List.set_cons_zero, List.set_cons_succ, Option.bind_some, Option.map_some, Nat.reduceSub, Nat.reduceAdd, Int.toNat_natCast, Bool.not_false, Bool.not_true, okK_none]
  refine ⟨by decide, ?_⟩
  obtain ⟨j, hj, lj⟩ := pick_k hO u1 3 (by omega)
  have hj : (O u1 3).1 = (j : Int) := hj
  rw [hj]
  refine ⟨by decide, ?_⟩
  obtain ⟨i, hi, li⟩ := pick_k hO (O u1 3).2 2 (by omega)
  have hi : (O (O u1 3).2 2).1 = (i : Int) := hi
  rw [hi]
  generalize (O (O u1 3).2 2).2 = u2
  obtain ⟨wide, hwd⟩ : ∃ wide, wide = 4 + j := ⟨_, rfl⟩
  obtain ⟨long, hlg⟩ : ∃ long, long = 3 + i := ⟨_, rfl⟩
  rw [show (4 : Int) + (j : Nat) = ((wide : Nat) : Int) by omega, show (3 : Int) + (i : Nat) = ((long : Nat) : Int) by omega]
  clear hj hi
  rw [sq_n, x_seq]
  simp only [e_var, v_v, v_o, e_non, e_bl, e_int, e_str, e_nil, e_dnil, e_cons, con_, e_tup, ls_, e_lst, e_bin, e_neg, int_, e_nt, e_and, e_or, e_ife, e_cmp, e_isc, e_call, e_pick, pick_, e_b1, e_b2, e_isin, e_ix, e_slc, e_rng1, e_rng2, e_enm, e_zp, zp_l, zp_t, e_comp, turn_, oc_s, oc_n, cmp_nil, x_asg, x_par, x_sto, sto_, x_app, app_, x_ext, ext_, x_ex, x_pop, pop_, x_popj, x_ret, ret_v, ret_o, ret_k, x_ifs, x_brk, x_cnt, x_pas, sq_b, sq_c, sq_r, x_seq, forB_, x_fr, whlC_, x_whl, okK_some, okK_ite, okK_map, okK_bind, trK_t, trK_f, trK_map, K2_some, K3_some, frz, bindT, wipe, R.d_v, R.d_o, R.d_k, R.st_v, R.st_o, R.st_k, binD, cmpD, truth, isinD, ix_d, ix_l, ix_t, get_d, e_get, e_rev, e_scons, x_par3, aI0, aI1, b1_len_d, b1_int, b1_intb, b1_sorted_d, partD, slcD, b1_len_l, b1_len_t, b1_len_s, b1_abs, b1_all, b1_any, b1_sum, b1_tup_l, b1_tup_t, b1_lst_l, b1_lst_t, b1_max, b1_min, b1_sorted, b2D, iscD, items, begin_, List.map_cons, List.map_nil, List.replicate_succ, List.replicate_zero, List.nil_append, List.cons_append, List.getElem?_cons_zero, List.getElem?_cons_succ, List.set_cons_zero, List.set_cons_succ, Option.bind_some, Option.map_some, Nat.reduceSub, Nat.reduceAdd, Int.toNat_natCast, Bool.not_false, Bool.not_true, okK_none]
  rw [rangeD_len]
  refine ⟨by constructor <;> omega, by rw [sizeLine_eq]; omega, ?_⟩
  rw [rangeD_0]
  refine cmp_map (fun d => match d with | .int m => tQ ((List.range wide).map fun i => val a m.toNat (kq i)) | _ => .non) _ _ (fun d hd => ?_) ?_
  · obtain ⟨m, hm, rfl⟩ := List.mem_map.mp hd
    have hm : m < long := List.mem_range.mp hm
    simp only [e_var, v_v, v_o, e_non, e_bl, e_int, e_str, e_nil, e_dnil, e_cons, con_, e_tup, ls_, e_lst, e_bin, e_neg, int_, e_nt, e_and, e_or, e_ife, e_cmp, e_isc, e_call, e_pick, pick_, e_b1, e_b2, e_isin, e_ix, e_slc, e_rng1, e_rng2, e_enm, e_zp, zp_l, zp_t, e_comp, turn_, oc_s, oc_n, cmp_nil, x_asg, x_par, x_sto, sto_, x_app, app_, x_ext, ext_, x_ex, x_pop, pop_, x_popj, x_ret, ret_v, ret_o, ret_k, x_ifs, x_brk, x_cnt, x_pas, sq_b, sq_c, sq_r, x_seq, forB_, x_fr, whlC_, x_whl, okK_some, okK_ite, okK_map, okK_bind, trK_t, trK_f, trK_map, K2_some, K3_some, frz, bindT, wipe, R.d_v, R.d_o, R.d_k, R.st_v, R.st_o, R.st_k, binD, cmpD, truth, isinD, ix_d, ix_l, ix_t, get_d, e_get, e_rev, e_scons, x_par3, aI0, aI1, b1_len_d, b1_int, b1_intb, b1_sorted_d, partD, slcD, b1_len_l, b1_len_t, b1_len_s, b1_abs, b1_all, b1_any, b1_sum, b1_tup_l, b1_tup_t, b1_lst_l, b1_lst_t, b1_max, b1_min, b1_sorted, b2D, iscD, items, begin_, List.map_cons, List.map_nil, List.replicate_succ, List.replicate_zero, List.nil_append, List.cons_append, List.getElem?_cons_zero, List.getElem?_cons_succ, List.set_cons_zero, List.set_cons_succ, Option.bind_some, Option.map_some, Nat.reduceSub, Nat.reduceAdd, Int.toNat_natCast, Bool.not_false, Bool.not_true, okK_none]
    rw [rangeD_len, show (((wide : Nat) : Int) + 1 - 1).toNat = wide by omega]
    refine ⟨⟨by constructor <;> omega, by constructor <;> omega⟩, by rw [sizeLine_eq]; omega, ?_⟩
    rw [rangeD_I]
    refine cmp_map (fun d => match d with | .int m' => Qd (val a m (kq (m' - 1).toNat)) | _ => .non) _ _ (fun d hd => ?_) ?_
    · obtain ⟨i, hi, rfl⟩ := List.mem_map.mp hd
      have hi : i < wide := List.mem_range.mp hi
      simp only [e_var, v_v, v_o, e_non, e_bl, e_int, e_str, e_nil, e_dnil, e_cons, con_, e_tup, ls_, e_lst, e_bin, e_neg, int_, e_nt, e_and, e_or, e_ife, e_cmp, e_isc, e_call, e_pick, pick_, e_b1, e_b2, e_isin, e_ix, e_slc, e_rng1, e_rng2, e_enm, e_zp, zp_l, zp_t, e_comp, turn_, oc_s, oc_n, cmp_nil, cmp_cons, x_asg, x_par, x_sto, sto_, x_app, app_, x_ext, ext_, x_ex, x_pop, pop_, x_popj, x_ret, ret_v, ret_o, ret_k, x_ifs, x_brk, x_cnt, x_pas, sq_n, sq_b, sq_c, sq_r, x_seq, forB_, x_fr, whlC_, x_whl, okK_some, okK_ite, okK_map, okK_bind, trK_t, trK_f, trK_map, K2_some, K3_some, frz, bindT, wipe, R.d_v, R.d_o, R.d_k, R.st_v, R.st_o, R.st_k, binD, cmpD, truth, isinD, ix_d, ix_l, ix_t, get_d, e_get, e_rev, e_scons, x_par3, aI0, aI1, b1_len_d, b1_int, b1_intb, b1_sorted_d, partD, slcD, b1_len_l, b1_len_t, b1_len_s, b1_abs, b1_all, b1_any, b1_sum, b1_tup_l, b1_tup_t, b1_lst_l, b1_lst_t, b1_max, b1_min, b1_sorted, b2D, iscD, items, begin_, List.map_cons, List.map_nil, List.replicate_succ, List.replicate_zero, List.nil_append, List.cons_append, List.getElem?_cons_zero, List.getElem?_cons_succ, List.set_cons_zero, List.set_cons_succ, Option.bind_some, Option.map_some, Nat.reduceSub, Nat.reduceAdd, Int.toNat_natCast, Bool.not_false, Bool.not_true, okK_none]
      refine ⟨(by simp only [List.length_cons, List.length_nil, List.length_append, List.length_map, sizeLine_eq]; omega), ?_⟩
      rw [kq_D]
      refine s_ldat (w := 3) (m := 2) (T := 3) (n + 2) ba (by omega) (by omega) (by omega) (by omega) (by omega) (bits_kq (by omega)) (by omega) (by omega) (by omega) hW ?_
      simp only [e_var, v_v, v_o, e_non, e_bl, e_int, e_str, e_nil, e_dnil, e_cons, con_, e_tup, ls_, e_lst, e_bin, e_neg, int_, e_nt, e_and, e_or, e_ife, e_cmp, e_isc, e_call, e_pick, pick_, e_b1, e_b2, e_isin, e_ix, e_slc, e_rng1, e_rng2, e_enm, e_zp, zp_l, zp_t, e_comp, turn_, oc_s, oc_n, cmp_nil, cmp_cons, x_asg, x_par, x_sto, sto_, x_app, app_, x_ext, ext_, x_ex, x_pop, pop_, x_popj, x_ret, ret_v, ret_o, ret_k, x_ifs, x_brk, x_cnt, x_pas, sq_n, sq_b, sq_c, sq_r, x_seq, forB_, x_fr, whlC_, x_whl, okK_some, okK_ite, okK_map, okK_bind, trK_t, trK_f, trK_map, K2_some, K3_some, frz, bindT, wipe, R.d_v, R.d_o, R.d_k, R.st_v, R.st_o, R.st_k, binD, cmpD, truth, isinD, ix_d, ix_l, ix_t, get_d, e_get, e_rev, e_scons, x_par3, aI0, aI1, b1_len_d, b1_int, b1_intb, b1_sorted_d, partD, slcD, b1_len_l, b1_len_t, b1_len_s, b1_abs, b1_all, b1_any, b1_sum, b1_tup_l, b1_tup_t, b1_lst_l, b1_lst_t, b1_max, b1_min, b1_sorted, b2D, iscD, items, begin_, List.map_cons, List.map_nil, List.replicate_succ, List.replicate_zero, List.nil_append, List.cons_append, List.getElem?_cons_zero, List.getElem?_cons_succ, List.set_cons_zero, List.set_cons_succ, Option.bind_some, Option.map_some, Nat.reduceSub, Nat.reduceAdd, Int.toNat_natCast, Bool.not_false, Bool.not_true, okK_none]
      refine ⟨?_, trivial⟩
      rw [show ((1 : Int) + (i : Nat) - 1).toNat = i by omega]
    · have e1 : ((List.range wide).map fun i => D.int ((1 : Int) + (i : Nat))).map (fun d => match d with | .int m' => Qd (val a m (kq (m' - 1).toNat)) | _ => .non) = ((List.range wide).map fun i => val a m (kq i)).map Qd := by
        rw [List.map_map, List.map_map]
        refine List.map_congr_left fun i _ => ?_
        simp only [Function.comp]
        rw [show ((1 : Int) + (i : Nat) - 1).toNat = i by omega]
      rw [e1]
      simp only [e_var, v_v, v_o, e_non, e_bl, e_int, e_str, e_nil, e_dnil, e_cons, con_, e_tup, ls_, e_lst, e_bin, e_neg, int_, e_nt, e_and, e_or, e_ife, e_cmp, e_isc, e_call, e_pick, pick_, e_b1, e_b2, e_isin, e_ix, e_slc, e_rng1, e_rng2, e_enm, e_zp, zp_l, zp_t, e_comp, turn_, oc_s, oc_n, cmp_nil, x_asg, x_par, x_sto, sto_, x_app, app_, x_ext, ext_, x_ex, x_pop, pop_, x_popj, x_ret, ret_v, ret_o, ret_k, x_ifs, x_brk, x_cnt, x_pas, sq_b, sq_c, sq_r, x_seq, forB_, x_fr, whlC_, x_whl, okK_some, okK_ite, okK_map, okK_bind, trK_t, trK_f, trK_map, K2_some, K3_some, frz, bindT, wipe, R.d_v, R.d_o, R.d_k, R.st_v, R.st_o, R.st_k, binD, cmpD, truth, isinD, ix_d, ix_l, ix_t, get_d, e_get, e_rev, e_scons, x_par3, aI0, aI1, b1_len_d, b1_int, b1_intb, b1_sorted_d, partD, slcD, b1_len_l, b1_len_t, b1_len_s, b1_abs, b1_all, b1_any, b1_sum, b1_tup_l, b1_tup_t, b1_lst_l, b1_lst_t, b1_max, b1_min, b1_sorted, b2D, iscD, items, begin_, List.map_cons, List.map_nil, List.replicate_succ, List.replicate_zero, List.nil_append, List.cons_append, List.getElem?_cons_zero, List.getElem?_cons_succ, List.set_cons_zero, List.set_cons_succ, Option.bind_some, Option.map_some, Nat.reduceSub, Nat.reduceAdd, Int.toNat_natCast, Bool.not_false, Bool.not_true, okK_none]
      exact ⟨trivial, trivial⟩
  · have e1 : ((List.range long).map fun i => D.int ((i : Nat) : Int)).map (fun d => match d with | .int m => tQ ((List.range wide).map fun i => val a m.toNat (kq i)) | _ => .non) = (tb a wide long).map tQ := by
      unfold tb
      rw [List.map_map, List.map_map]
      refine List.map_congr_left fun i _ => ?_
      simp only [Function.comp, Int.toNat_natCast]
    rw [e1]
    rw [sq_n, x_seq]
    simp only [e_var, v_v, v_o, e_non, e_bl, e_int, e_str, e_nil, e_dnil, e_cons, con_, e_tup, ls_, e_lst, e_bin, e_neg, int_, e_nt, e_and, e_or, e_ife, e_cmp, e_isc, e_call, e_pick, pick_, e_b1, e_b2, e_isin, e_ix, e_slc, e_rng1, e_rng2, e_enm, e_zp, zp_l, zp_t, e_comp, turn_, oc_s, oc_n, cmp_nil, x_asg, x_par, x_sto, sto_, x_app, app_, x_ext, ext_, x_ex, x_pop, pop_, x_popj, x_ret, ret_v, ret_o, ret_k, x_ifs, x_brk, x_cnt, x_pas, sq_b, sq_c, sq_r, x_seq, forB_, x_fr, whlC_, x_whl, okK_some, okK_ite, okK_map, okK_bind, trK_t, trK_f, trK_map, K2_some, K3_some, frz, bindT, wipe, R.d_v, R.d_o, R.d_k, R.st_v, R.st_o, R.st_k, binD, cmpD, truth, isinD, ix_d, ix_l, ix_t, get_d, e_get, e_rev, e_scons, x_par3, aI0, aI1, b1_len_d, b1_int, b1_intb, b1_sorted_d, partD, slcD, b1_len_l, b1_len_t, b1_len_s, b1_abs, b1_all, b1_any, b1_sum, b1_tup_l, b1_tup_t, b1_lst_l, b1_lst_t, b1_max, b1_min, b1_sorted, b2D, iscD, items, begin_, List.map_cons, List.map_nil, List.replicate_succ, List.replicate_zero, List.nil_append, List.cons_append, List.getElem?_cons_zero, List.getElem?_cons_succ, List.set_cons_zero, List.set_cons_succ, Option.bind_some, Option.map_some, Nat.reduceSub, Nat.reduceAdd, Int.toNat_natCast, Bool.not_false, Bool.not_true, okK_none]
    have hx : ∀ x ∈ a, x.1 < wide := fun x hx => by have := (ba x hx).2.2; omega
    have tw : ∀ l ∈ tb a wide long, l.length = wide := fun l hl => by
      obtain ⟨m, _, rfl⟩ := List.mem_map.mp hl
      rw [List.length_map, List.length_range]
    have tl : (tb a wide long).length = long := by unfold tb; rw [List.length_map, List.length_range]
    have tbt : ∀ l ∈ tb a wide long, ∀ x ∈ l, bt 2 373 x := fun l hl x hx => by
      obtain ⟨m, hm, rfl⟩ := List.mem_map.mp hl
      have hm : m < long := List.mem_range.mp hm
      obtain ⟨i, hi, rfl⟩ := List.mem_map.mp hx
      have hi : i < wide := List.mem_range.mp hi
      obtain ⟨z, hz⟩ := val_int m i a
      have := val_bits (N := m) (m := 2) (T := 3) ba (by omega) (by omega) (bits_kq (i := i) (by omega))
      have := (this.mono (Nat.le_trans (Nat.mul_le_mul_right _ la) (show _ ≤ 372 by omega)))
      rw [hz] at this ⊢
      exact bt_int this.1
    have sha : Sh (3 * 9 + 1) 3 (dD a) := (sh_dD ba (by omega) (by decide +kernel)).mono (by have := Nat.mul_le_mul_right (2 * (3 + 1) + 1) la; omega) (Nat.le_refl _)
    refine s_through n tbt tw (fun z => by rw [z] at tl; simp at tl; omega) (by omega) (by omega) (by omega) (by omega) h1000 (fun ⟨e, he, hn⟩ => absurd (inte_tb hx e he) hn) (fun _ d cd hd _ _ => ?_)
    have ed : d = a := can_uniq cd ca fun e N => by rw [hd, dnP_tb ca hx (fun x hx => by have := (ba x hx).1; omega)]
    subst ed
    refine repr_s sha (by omega) (by omega) (repr_s sha (by omega) (by omega) (eq_shw sha ?_))
    simp only [e_var, v_v, v_o, e_non, e_bl, e_int, e_str, e_nil, e_dnil, e_cons, con_, e_tup, ls_, e_lst, e_bin, e_neg, int_, e_nt, e_and, e_or, e_ife, e_cmp, e_isc, e_call, e_pick, pick_, e_b1, e_b2, e_isin, e_ix, e_slc, e_rng1, e_rng2, e_enm, e_zp, zp_l, zp_t, e_comp, turn_, oc_s, oc_n, cmp_nil, x_asg, x_par, x_sto, sto_, x_app, app_, x_ext, ext_, x_ex, x_pop, pop_, x_popj, x_ret, ret_v, ret_o, ret_k, x_ifs, x_brk, x_cnt, x_pas, sq_b, sq_c, sq_r, x_seq, forB_, x_fr, whlC_, x_whl, okK_some, okK_ite, okK_map, okK_bind, trK_t, trK_f, trK_map, K2_some, K3_some, frz, bindT, wipe, R.d_v, R.d_o, R.d_k, R.st_v, R.st_o, R.st_k, binD, cmpD, truth, isinD, ix_d, ix_l, ix_t, get_d, e_get, e_rev, e_scons, x_par3, aI0, aI1, b1_len_d, b1_int, b1_intb, b1_sorted_d, partD, slcD, b1_len_l, b1_len_t, b1_len_s, b1_abs, b1_all, b1_any, b1_sum, b1_tup_l, b1_tup_t, b1_lst_l, b1_lst_t, b1_max, b1_min, b1_sorted, b2D, iscD, items, begin_, List.map_cons, List.map_nil, List.replicate_succ, List.replicate_zero, List.nil_append, List.cons_append, List.getElem?_cons_zero, List.getElem?_cons_succ, List.set_cons_zero, List.set_cons_succ, Option.bind_some, Option.map_some, Nat.reduceSub, Nat.reduceAdd, Int.toNat_natCast, Bool.not_false, Bool.not_true, okK_none]
    rw [sq_n]
    exact q _ _ _ _ _
end PyI

set_option Elab.async false
set_option linter.all false
set_option maxRecDepth 100000
set_option maxHeartbeats 8000000
namespace PyI
open PySem PySem.Spec PyProof.Rows Rw
variable {τ : Type} {O : Pk τ} {W : Nat}
def PQ (x : Rat) : Prop := bt 2 6 x ∧ bits 8 x
theorem PQ_int {z : Int} (h : z.natAbs ≤ 2 ^ 5) : PQ (z : Rat) := ⟨bt_int h, (bits_int h).mono (by omega)⟩
theorem PQ_half : PQ (Rat.divInt 1 2) := ⟨⟨1, rfl, by decide⟩, bits_div (by decide) (by decide) (by decide)⟩
def QD (d : D) : Prop := ∃ x, d = Qd x ∧ PQ x
theorem Qs_of : ∀ {ds : List D}, (∀ d ∈ ds, QD d) → ∃ l : List Rat, ds = l.map Qd ∧ ∀ x ∈ l, PQ x
  | [], _ => ⟨[], rfl, fun _ h => nomatch h⟩
  | d :: ds, h => by
    obtain ⟨x, rfl, hx⟩ := h d (List.mem_cons_self ..)
    obtain ⟨l, rfl, hl⟩ := Qs_of fun d hd => h d (List.mem_cons_of_mem _ hd)
    exact ⟨x :: l, rfl, fun y hy => (List.mem_cons.mp hy).elim (fun e => e ▸ hx) (hl y)⟩
def LD (w : Nat) (d : D) : Prop := ∃ l, d = tQ l ∧ l.length = w ∧ ∀ x ∈ l, PQ x
theorem Ls_of {w : Nat} : ∀ {ds : List D}, (∀ d ∈ ds, LD w d) → ∃ ls : List (List Rat), ds = ls.map tQ ∧ (∀ l ∈ ls, l.length = w) ∧ ∀ l ∈ ls, ∀ x ∈ l, PQ x
  | [], _ => ⟨[], rfl, (fun _ h => nomatch h), fun _ h => nomatch h⟩
  | d :: ds, h => by
    obtain ⟨l, rfl, h1, h2⟩ := h d (List.mem_cons_self ..)
    obtain ⟨ls, rfl, h3, h4⟩ := Ls_of fun d hd => h d (List.mem_cons_of_mem _ hd)
    exact ⟨l :: ls, rfl, fun y hy => (List.mem_cons.mp hy).elim (fun e => e ▸ h1) (h3 y), fun y hy => (List.mem_cons.mp hy).elim (fun e => e ▸ h2) (h4 y)⟩
theorem maxI_le {l : List Int} {B : Int} (h0 : l ≠ []) (h : ∀ y ∈ l, y ≤ B) : maxI l ≤ B := by
  cases l with
  | nil => exact absurd rfl h0
  | cons x l =>
    obtain ⟨h1, _, _⟩ := foldl_max l x
    rcases h1 with h1 | h1
    · show l.foldl max x ≤ B
      rw [h1]; exact h x (List.mem_cons_self ..)
    · exact h _ (List.mem_cons_of_mem _ h1)
theorem lst_nil2 : eqD (.lst []) (.lst []) = some true := eq_lst_nil []
/-- what is told has the table's fractions -/
theorem s_pT (n : Nat) (hW : 2 ^ 8001 ≤ W) {ls : List (List Rat)} {wide long : Nat} (hlen : ls.length = long) (hw : ∀ l ∈ ls, l.length = wide) (hP : ∀ l ∈ ls, ∀ x ∈ l, PQ x) (w1 : 1 ≤ wide) (w3 : wide ≤ 3) (l3 : long ≤ 3) (hi : ∀ e, e < wide → inte ls e) {d : Dn} (cd : Can d) (hd : ∀ e N, cf d e N = cf (dnP ls wide) e N) (dl : d.length ≤ wide) (db : bnd 58 long wide d)
    {y2 y4 y5 y9 y10 y11 y12 y13 : Option R} {u : τ} {kk : Out → Rho → τ → Prop}
    (q : ∀ y10 y11 y12 y13 u, kk .nx [none, some (.v .src), y2, some (.v (.tup (ls.map tQ))), y4, y5, some (.v (nD wide)), some (.v (nD long)), some (.v (dD d)), y9, y10, y11, y12, y13] u) :
    exK O (run O W prog (n + 5)) W pT [none, some (.v .src), y2, some (.v (.tup (ls.map tQ))), y4, y5, some (.v (nD wide)), some (.v (nD long)), some (.v (dD d)), y9, y10, y11, y12, y13] u kk := by
  have h1000 : 1000 + 3 < W := Nat.lt_of_lt_of_le (by decide +kernel) hW
  unfold pT
  rw [x_seq]
  simp only [e_var, v_v, v_o, e_non, e_bl, e_int, e_str, e_nil, e_dnil, e_cons, con_, e_tup, ls_, e_lst, e_bin, e_neg, int_, e_nt, e_and, e_or, e_ife, e_cmp, e_isc, e_call, e_pick, pick_, e_b1, e_b2, e_isin, e_ix, e_slc, e_rng1, e_rng2, e_enm, e_zp, zp_l, zp_t, e_comp, turn_, oc_s, oc_n, cmp_nil, x_asg, x_par, x_sto, sto_, x_app, app_, x_ext, ext_, x_ex, x_pop, pop_, x_popj, x_ret, ret_v, ret_o, ret_k, x_ifs, x_brk, x_cnt, x_pas, sq_b, sq_c, sq_r, x_seq, forB_, x_fr, whlC_, x_whl, okK_some, okK_ite, okK_map, okK_bind, trK_t, trK_f, trK_map, K2_some, K3_some, frz, bindT, wipe, R.d_v, R.d_o, R.d_k, R.st_v, R.st_o, R.st_k, binD, cmpD, truth, isinD, ix_d, ix_l, ix_t, get_d, e_get, e_rev, e_scons, x_par3, aI0, aI1, b1_len_d, b1_int, b1_intb, b1_sorted_d, partD, slcD, b1_len_l, b1_len_t, b1_len_s, b1_abs, b1_all, b1_any, b1_sum, b1_tup_l, b1_tup_t, b1_lst_l, b1_lst_t, b1_max, b1_min, b1_sorted, b2D, iscD, items, begin_, List.map_cons, List.map_nil, List.replicate_succ, List.replicate_zero, List.nil_append, List.cons_append, List.getElem?_cons_zero, List.getElem?_cons_succ, List.set_cons_zero, List.set_cons_succ, Option.bind_some, Option.map_some, Nat.reduceSub, Nat.reduceAdd, Int.toNat_natCast, Bool.not_false, Bool.not_true, okK_none]
  refine s_isd_can (n + 2) cd (fun x hx => by have := (db x hx).1; omega) (by omega) ?_
  simp only [e_var, v_v, v_o, e_non, e_bl, e_int, e_str, e_nil, e_dnil, e_cons, con_, e_tup, ls_, e_lst, e_bin, e_neg, int_, e_nt, e_and, e_or, e_ife, e_cmp, e_isc, e_call, e_pick, pick_, e_b1, e_b2, e_isin, e_ix, e_slc, e_rng1, e_rng2, e_enm, e_zp, zp_l, zp_t, e_comp, turn_, oc_s, oc_n, cmp_nil, x_asg, x_par, x_sto, sto_, x_app, app_, x_ext, ext_, x_ex, x_pop, pop_, x_popj, x_ret, ret_v, ret_o, ret_k, x_ifs, x_brk, x_cnt, x_pas, sq_b, sq_c, sq_r, x_seq, forB_, x_fr, whlC_, x_whl, okK_some, okK_ite, okK_map, okK_bind, trK_t, trK_f, trK_map, K2_some, K3_some, frz, bindT, wipe, R.d_v, R.d_o, R.d_k, R.st_v, R.st_o, R.st_k, binD, cmpD, truth, isinD, ix_d, ix_l, ix_t, get_d, e_get, e_rev, e_scons, x_par3, aI0, aI1, b1_len_d, b1_int, b1_intb, b1_sorted_d, partD, slcD, b1_len_l, b1_len_t, b1_len_s, b1_abs, b1_all, b1_any, b1_sum, b1_tup_l, b1_tup_t, b1_lst_l, b1_lst_t, b1_max, b1_min, b1_sorted, b2D, iscD, items, begin_, List.map_cons, List.map_nil, List.replicate_succ, List.replicate_zero, List.nil_append, List.cons_append, List.getElem?_cons_zero, List.getElem?_cons_succ, List.set_cons_zero, List.set_cons_succ, Option.bind_some, Option.map_some, Nat.reduceSub, Nat.reduceAdd, Int.toNat_natCast, Bool.not_false, Bool.not_true, okK_none, beq_self_eq_true, bne_self_eq_false, List.length_map, List.length_cons, List.length_nil]
  refine ⟨by rw [sizeLine_eq]; omega, ?_⟩
  refine cmp_map (fun d => match d with | .tup [e, _] => e | _ => .non) _ _ (fun d hd => ?_) ?_
  · obtain ⟨x, hx, rfl⟩ := List.mem_map.mp hd
    simp only [pr, e_var, v_v, v_o, e_non, e_bl, e_int, e_str, e_nil, e_dnil, e_cons, con_, e_tup, ls_, e_lst, e_bin, e_neg, int_, e_nt, e_and, e_or, e_ife, e_cmp, e_isc, e_call, e_pick, pick_, e_b1, e_b2, e_isin, e_ix, e_slc, e_rng1, e_rng2, e_enm, e_zp, zp_l, zp_t, e_comp, turn_, oc_s, oc_n, cmp_nil, cmp_cons, x_asg, x_par, x_sto, sto_, x_app, app_, x_ext, ext_, x_ex, x_pop, pop_, x_popj, x_ret, ret_v, ret_o, ret_k, x_ifs, x_brk, x_cnt, x_pas, sq_n, sq_b, sq_c, sq_r, x_seq, forB_, x_fr, whlC_, x_whl, okK_some, okK_ite, okK_map, okK_bind, trK_t, trK_f, trK_map, K2_some, K3_some, frz, bindT, wipe, R.d_v, R.d_o, R.d_k, R.st_v, R.st_o, R.st_k, binD, cmpD, truth, isinD, ix_d, ix_l, ix_t, get_d, e_get, e_rev, e_scons, x_par3, aI0, aI1, b1_len_d, b1_int, b1_intb, b1_sorted_d, partD, slcD, b1_len_l, b1_len_t, b1_len_s, b1_abs, b1_all, b1_any, b1_sum, b1_tup_l, b1_tup_t, b1_lst_l, b1_lst_t, b1_max, b1_min, b1_sorted, b2D, iscD, items, begin_, List.map_cons, List.map_nil, List.replicate_succ, List.replicate_zero, List.nil_append, List.cons_append, List.getElem?_cons_zero, List.getElem?_cons_succ, List.set_cons_zero, List.set_cons_succ, Option.bind_some, Option.map_some, Nat.reduceSub, Nat.reduceAdd, Int.toNat_natCast, Bool.not_false, Bool.not_true, okK_none]
    exact ⟨trivial, trivial⟩
  have e1 : (d.map pr).map (fun d => match d with | .tup [e, _] => e | _ => D.non) = I ((keys d).map fun e => ((e : Nat) : Int)) := by
    simp [keys, I, pr, Function.comp]
  rw [e1, show I ((keys d).map fun e => ((e : Nat) : Int)) = ((keys d).map fun e => ((e : Nat) : Int)).map D.int from rfl]
  have e2 : intsD (((keys d).map fun e => ((e : Nat) : Int)).map D.int ++ [D.int 0]) = some ((keys d).map (fun e => ((e : Nat) : Int)) ++ [0]) := by
    have : ((keys d).map fun e => ((e : Nat) : Int)).map D.int ++ [D.int 0] = I ((keys d).map (fun e => ((e : Nat) : Int)) ++ [0]) := by simp [I]
    rw [this, intsD_I]
  have ne : ((keys d).map (fun e => ((e : Nat) : Int)) ++ [0]) ≠ [] := by simp
  have lk : (keys d).length = d.length := by unfold keys; rw [List.length_map]
  have mle : maxI ((keys d).map (fun e => ((e : Nat) : Int)) ++ [0]) ≤ ((wide : Nat) : Int) - 1 := maxI_le ne fun y hy => by
    rcases List.mem_append.mp hy with z | z
    · obtain ⟨e, he, rfl⟩ := List.mem_map.mp z
      obtain ⟨x, hx, rfl⟩ := List.mem_map.mp he
      have := (db x hx).2.2
      omega
    · rw [List.mem_singleton] at z
      omega
  have c1 : decide (((wide : Nat) : Int) ≤ maxI ((keys d).map (fun e => ((e : Nat) : Int)) ++ [0])) = false := decide_eq_false (by omega)
  simp only [e_var, v_v, v_o, e_non, e_bl, e_int, e_str, e_nil, e_dnil, e_cons, con_, e_tup, ls_, e_lst, e_bin, e_neg, int_, e_nt, e_and, e_or, e_ife, e_cmp, e_isc, e_call, e_pick, pick_, e_b1, e_b2, e_isin, e_ix, e_slc, e_rng1, e_rng2, e_enm, e_zp, zp_l, zp_t, e_comp, turn_, oc_s, oc_n, cmp_nil, x_asg, x_par, x_sto, sto_, x_app, app_, x_ext, ext_, x_ex, x_pop, pop_, x_popj, x_ret, ret_v, ret_o, ret_k, x_ifs, x_brk, x_cnt, x_pas, sq_b, sq_c, sq_r, x_seq, forB_, x_fr, whlC_, x_whl, okK_some, okK_ite, okK_map, okK_bind, trK_t, trK_f, trK_map, K2_some, K3_some, frz, bindT, wipe, R.d_v, R.d_o, R.d_k, R.st_v, R.st_o, R.st_k, binD, cmpD, truth, isinD, ix_d, ix_l, ix_t, get_d, e_get, e_rev, e_scons, x_par3, aI0, aI1, b1_len_d, b1_int, b1_intb, b1_sorted_d, partD, slcD, b1_len_l, b1_len_t, b1_len_s, b1_abs, b1_all, b1_any, b1_sum, b1_tup_l, b1_tup_t, b1_lst_l, b1_lst_t, b1_max, b1_min, b1_sorted, b2D, iscD, items, begin_, List.map_cons, List.map_nil, List.replicate_succ, List.replicate_zero, List.nil_append, List.cons_append, List.getElem?_cons_zero, List.getElem?_cons_succ, List.set_cons_zero, List.set_cons_succ, Option.bind_some, Option.map_some, Nat.reduceSub, Nat.reduceAdd, Int.toNat_natCast, Bool.not_false, Bool.not_true, okK_none, e2, if_neg ne, c1, List.length_map, lk, List.length_cons, List.length_nil]
  refine ⟨(by simp only [List.length_cons, List.length_nil, List.length_append, List.length_map, sizeLine_eq]; omega), by rw [sizeLine_eq]; omega, ?_⟩
  rw [sq_n, x_seq]
  simp only [e_var, v_v, v_o, e_non, e_bl, e_int, e_str, e_nil, e_dnil, e_cons, con_, e_tup, ls_, e_lst, e_bin, e_neg, int_, e_nt, e_and, e_or, e_ife, e_cmp, e_isc, e_call, e_pick, pick_, e_b1, e_b2, e_isin, e_ix, e_slc, e_rng1, e_rng2, e_enm, e_zp, zp_l, zp_t, e_comp, turn_, oc_s, oc_n, cmp_nil, x_asg, x_par, x_sto, sto_, x_app, app_, x_ext, ext_, x_ex, x_pop, pop_, x_popj, x_ret, ret_v, ret_o, ret_k, x_ifs, x_brk, x_cnt, x_pas, sq_b, sq_c, sq_r, x_seq, forB_, x_fr, whlC_, x_whl, okK_some, okK_ite, okK_map, okK_bind, trK_t, trK_f, trK_map, K2_some, K3_some, frz, bindT, wipe, R.d_v, R.d_o, R.d_k, R.st_v, R.st_o, R.st_k, binD, cmpD, truth, isinD, ix_d, ix_l, ix_t, get_d, e_get, e_rev, e_scons, x_par3, aI0, aI1, b1_len_d, b1_int, b1_intb, b1_sorted_d, partD, slcD, b1_len_l, b1_len_t, b1_len_s, b1_abs, b1_all, b1_any, b1_sum, b1_tup_l, b1_tup_t, b1_lst_l, b1_lst_t, b1_max, b1_min, b1_sorted, b2D, iscD, items, begin_, List.map_cons, List.map_nil, List.replicate_succ, List.replicate_zero, List.nil_append, List.cons_append, List.getElem?_cons_zero, List.getElem?_cons_succ, List.set_cons_zero, List.set_cons_succ, Option.bind_some, Option.map_some, Nat.reduceSub, Nat.reduceAdd, Int.toNat_natCast, Bool.not_false, Bool.not_true, okK_none, List.length_map, List.length_cons, List.length_nil]
  refine ⟨by rw [sizeLine_eq]; omega, ?_⟩
  refine cmp_map (fun d => match d with | .tup [_, .tup r] => .int r.length | _ => .non) _ _ (fun d hd => ?_) ?_
  · obtain ⟨x, hx, rfl⟩ := List.mem_map.mp hd
    simp only [pr, e_var, v_v, v_o, e_non, e_bl, e_int, e_str, e_nil, e_dnil, e_cons, con_, e_tup, ls_, e_lst, e_bin, e_neg, int_, e_nt, e_and, e_or, e_ife, e_cmp, e_isc, e_call, e_pick, pick_, e_b1, e_b2, e_isin, e_ix, e_slc, e_rng1, e_rng2, e_enm, e_zp, zp_l, zp_t, e_comp, turn_, oc_s, oc_n, cmp_nil, cmp_cons, x_asg, x_par, x_sto, sto_, x_app, app_, x_ext, ext_, x_ex, x_pop, pop_, x_popj, x_ret, ret_v, ret_o, ret_k, x_ifs, x_brk, x_cnt, x_pas, sq_n, sq_b, sq_c, sq_r, x_seq, forB_, x_fr, whlC_, x_whl, okK_some, okK_ite, okK_map, okK_bind, trK_t, trK_f, trK_map, K2_some, K3_some, frz, bindT, wipe, R.d_v, R.d_o, R.d_k, R.st_v, R.st_o, R.st_k, binD, cmpD, truth, isinD, ix_d, ix_l, ix_t, get_d, e_get, e_rev, e_scons, x_par3, aI0, aI1, b1_len_d, b1_int, b1_intb, b1_sorted_d, partD, slcD, b1_len_l, b1_len_t, b1_len_s, b1_abs, b1_all, b1_any, b1_sum, b1_tup_l, b1_tup_t, b1_lst_l, b1_lst_t, b1_max, b1_min, b1_sorted, b2D, iscD, items, begin_, List.map_cons, List.map_nil, List.replicate_succ, List.replicate_zero, List.nil_append, List.cons_append, List.getElem?_cons_zero, List.getElem?_cons_succ, List.set_cons_zero, List.set_cons_succ, Option.bind_some, Option.map_some, Nat.reduceSub, Nat.reduceAdd, Int.toNat_natCast, Bool.not_false, Bool.not_true, okK_none]
    exact ⟨trivial, trivial⟩
  have e3 : (d.map pr).map (fun d => match d with | .tup [_, .tup r] => .int r.length | _ => D.non) = (d.map fun x => ((x.2.length : Nat) : Int)).map D.int := by
    simp [pr, Function.comp]
  have e4 : intsD ((d.map fun x => ((x.2.length : Nat) : Int)).map D.int ++ [D.int 0]) = some ((d.map fun x => ((x.2.length : Nat) : Int)) ++ [0]) := by
    have : (d.map fun x => ((x.2.length : Nat) : Int)).map D.int ++ [D.int 0] = I ((d.map fun x => ((x.2.length : Nat) : Int)) ++ [0]) := by simp [I]
    rw [this, intsD_I]
  have ne2 : ((d.map fun x => ((x.2.length : Nat) : Int)) ++ [0]) ≠ [] := by simp
  have mle2 : maxI ((d.map fun x => ((x.2.length : Nat) : Int)) ++ [0]) ≤ ((long : Nat) : Int) := maxI_le ne2 fun y hy => by
    rcases List.mem_append.mp hy with z | z
    · obtain ⟨x, hx, rfl⟩ := List.mem_map.mp z
      have := (db x hx).1
      omega
    · rw [List.mem_singleton] at z
      omega
  have c2 : decide (((long : Nat) : Int) < maxI ((d.map fun x => ((x.2.length : Nat) : Int)) ++ [0])) = false := decide_eq_false (by omega)
  rw [e3]
  simp only [e_var, v_v, v_o, e_non, e_bl, e_int, e_str, e_nil, e_dnil, e_cons, con_, e_tup, ls_, e_lst, e_bin, e_neg, int_, e_nt, e_and, e_or, e_ife, e_cmp, e_isc, e_call, e_pick, pick_, e_b1, e_b2, e_isin, e_ix, e_slc, e_rng1, e_rng2, e_enm, e_zp, zp_l, zp_t, e_comp, turn_, oc_s, oc_n, cmp_nil, x_asg, x_par, x_sto, sto_, x_app, app_, x_ext, ext_, x_ex, x_pop, pop_, x_popj, x_ret, ret_v, ret_o, ret_k, x_ifs, x_brk, x_cnt, x_pas, sq_b, sq_c, sq_r, x_seq, forB_, x_fr, whlC_, x_whl, okK_some, okK_ite, okK_map, okK_bind, trK_t, trK_f, trK_map, K2_some, K3_some, frz, bindT, wipe, R.d_v, R.d_o, R.d_k, R.st_v, R.st_o, R.st_k, binD, cmpD, truth, isinD, ix_d, ix_l, ix_t, get_d, e_get, e_rev, e_scons, x_par3, aI0, aI1, b1_len_d, b1_int, b1_intb, b1_sorted_d, partD, slcD, b1_len_l, b1_len_t, b1_len_s, b1_abs, b1_all, b1_any, b1_sum, b1_tup_l, b1_tup_t, b1_lst_l, b1_lst_t, b1_max, b1_min, b1_sorted, b2D, iscD, items, begin_, List.map_cons, List.map_nil, List.replicate_succ, List.replicate_zero, List.nil_append, List.cons_append, List.getElem?_cons_zero, List.getElem?_cons_succ, List.set_cons_zero, List.set_cons_succ, Option.bind_some, Option.map_some, Nat.reduceSub, Nat.reduceAdd, Int.toNat_natCast, Bool.not_false, Bool.not_true, okK_none, e4, if_neg ne2, c2, List.length_map, List.length_cons, List.length_nil]
  refine ⟨(by simp only [List.length_cons, List.length_nil, List.length_append, List.length_map, sizeLine_eq]; omega), by rw [sizeLine_eq]; omega, ?_⟩
  rw [sq_n]
  simp only [e_var, v_v, v_o, e_non, e_bl, e_int, e_str, e_nil, e_dnil, e_cons, con_, e_tup, ls_, e_lst, e_bin, e_neg, int_, e_nt, e_and, e_or, e_ife, e_cmp, e_isc, e_call, e_pick, pick_, e_b1, e_b2, e_isin, e_ix, e_slc, e_rng1, e_rng2, e_enm, e_zp, zp_l, zp_t, e_comp, turn_, oc_s, oc_n, cmp_nil, x_asg, x_par, x_sto, sto_, x_app, app_, x_ext, ext_, x_ex, x_pop, pop_, x_popj, x_ret, ret_v, ret_o, ret_k, x_ifs, x_brk, x_cnt, x_pas, sq_b, sq_c, sq_r, x_seq, forB_, x_fr, whlC_, x_whl, okK_some, okK_ite, okK_map, okK_bind, trK_t, trK_f, trK_map, K2_some, K3_some, frz, bindT, wipe, R.d_v, R.d_o, R.d_k, R.st_v, R.st_o, R.st_k, binD, cmpD, truth, isinD, ix_d, ix_l, ix_t, get_d, e_get, e_rev, e_scons, x_par3, aI0, aI1, b1_len_d, b1_int, b1_intb, b1_sorted_d, partD, slcD, b1_len_l, b1_len_t, b1_len_s, b1_abs, b1_all, b1_any, b1_sum, b1_tup_l, b1_tup_t, b1_lst_l, b1_lst_t, b1_max, b1_min, b1_sorted, b2D, iscD, items, begin_, List.map_cons, List.map_nil, List.replicate_succ, List.replicate_zero, List.nil_append, List.cons_append, List.getElem?_cons_zero, List.getElem?_cons_succ, List.set_cons_zero, List.set_cons_succ, Option.bind_some, Option.map_some, Nat.reduceSub, Nat.reduceAdd, Int.toNat_natCast, Bool.not_false, Bool.not_true, okK_none]
  refine ⟨by constructor <;> omega, ?_⟩
  refine for_rng (fun i ρ u' => ∃ y10 y11 y12 y13 : Option R, ρ = [none, some (.v .src), y2, some (.v (.tup (ls.map tQ))), y4, y5, some (.v (nD wide)), some (.v (nD long)), some (.v (dD d)), y9, y10, y11, y12, y13]) ⟨_, _, _, _, rfl⟩ ?_ ?_
  · rintro i ρ u' hil ⟨y10, y11, y12, y13, rfl⟩
    rw [show ((0 : Int) + (i : Nat)) = ((i : Nat) : Int) by omega]
    simp only [e_var, v_v, v_o, e_non, e_bl, e_int, e_str, e_nil, e_dnil, e_cons, con_, e_tup, ls_, e_lst, e_bin, e_neg, int_, e_nt, e_and, e_or, e_ife, e_cmp, e_isc, e_call, e_pick, pick_, e_b1, e_b2, e_isin, e_ix, e_slc, e_rng1, e_rng2, e_enm, e_zp, zp_l, zp_t, e_comp, turn_, oc_s, oc_n, cmp_nil, x_asg, x_par, x_sto, sto_, x_app, app_, x_ext, ext_, x_ex, x_pop, pop_, x_popj, x_ret, ret_v, ret_o, ret_k, x_ifs, x_brk, x_cnt, x_pas, sq_b, sq_c, sq_r, x_seq, forB_, x_fr, whlC_, x_whl, okK_some, okK_ite, okK_map, okK_bind, trK_t, trK_f, trK_map, K2_some, K3_some, frz, bindT, wipe, R.d_v, R.d_o, R.d_k, R.st_v, R.st_o, R.st_k, binD, cmpD, truth, isinD, ix_d, ix_l, ix_t, get_d, e_get, e_rev, e_scons, x_par3, aI0, aI1, b1_len_d, b1_int, b1_intb, b1_sorted_d, partD, slcD, b1_len_l, b1_len_t, b1_len_s, b1_abs, b1_all, b1_any, b1_sum, b1_tup_l, b1_tup_t, b1_lst_l, b1_lst_t, b1_max, b1_min, b1_sorted, b2D, iscD, items, begin_, List.map_cons, List.map_nil, List.replicate_succ, List.replicate_zero, List.nil_append, List.cons_append, List.getElem?_cons_zero, List.getElem?_cons_succ, List.set_cons_zero, List.set_cons_succ, Option.bind_some, Option.map_some, Nat.reduceSub, Nat.reduceAdd, Int.toNat_natCast, Bool.not_false, Bool.not_true, okK_none]
    rw [rangeD_len, show (((wide : Nat) : Int) + 1 - 1).toNat = wide by omega]
    refine ⟨⟨by constructor <;> omega, by constructor <;> omega⟩, by rw [sizeLine_eq]; omega, ?_⟩
    rw [rangeD_I]
    refine cmp_map (fun d' => match d' with | .int m' => Qd (val d i (kq (m' - 1).toNat)) | _ => .non) _ _ (fun d' hd' => ?_) ?_
    · obtain ⟨j, hj, rfl⟩ := List.mem_map.mp hd'
      have hj : j < wide := List.mem_range.mp hj
      simp only [e_var, v_v, v_o, e_non, e_bl, e_int, e_str, e_nil, e_dnil, e_cons, con_, e_tup, ls_, e_lst, e_bin, e_neg, int_, e_nt, e_and, e_or, e_ife, e_cmp, e_isc, e_call, e_pick, pick_, e_b1, e_b2, e_isin, e_ix, e_slc, e_rng1, e_rng2, e_enm, e_zp, zp_l, zp_t, e_comp, turn_, oc_s, oc_n, cmp_nil, cmp_cons, x_asg, x_par, x_sto, sto_, x_app, app_, x_ext, ext_, x_ex, x_pop, pop_, x_popj, x_ret, ret_v, ret_o, ret_k, x_ifs, x_brk, x_cnt, x_pas, sq_n, sq_b, sq_c, sq_r, x_seq, forB_, x_fr, whlC_, x_whl, okK_some, okK_ite, okK_map, okK_bind, trK_t, trK_f, trK_map, K2_some, K3_some, frz, bindT, wipe, R.d_v, R.d_o, R.d_k, R.st_v, R.st_o, R.st_k, binD, cmpD, truth, isinD, ix_d, ix_l, ix_t, get_d, e_get, e_rev, e_scons, x_par3, aI0, aI1, b1_len_d, b1_int, b1_intb, b1_sorted_d, partD, slcD, b1_len_l, b1_len_t, b1_len_s, b1_abs, b1_all, b1_any, b1_sum, b1_tup_l, b1_tup_t, b1_lst_l, b1_lst_t, b1_max, b1_min, b1_sorted, b2D, iscD, items, begin_, List.map_cons, List.map_nil, List.replicate_succ, List.replicate_zero, List.nil_append, List.cons_append, List.getElem?_cons_zero, List.getElem?_cons_succ, List.set_cons_zero, List.set_cons_succ, Option.bind_some, Option.map_some, Nat.reduceSub, Nat.reduceAdd, Int.toNat_natCast, Bool.not_false, Bool.not_true, okK_none]
      refine ⟨(by simp only [List.length_cons, List.length_nil, List.length_append, List.length_map, sizeLine_eq]; omega), ?_⟩
      rw [kq_D]
      have hlen8 : (d.length + 1) * (3 * wide + (5 + 58 + 2 * long) + 1) ≤ 8000 := Nat.le_trans (Nat.mul_le_mul (show d.length + 1 ≤ 4 by omega) (show _ ≤ 100 by omega)) (by omega)
      refine s_dat (m := 2) (T := 3) (n + 2) cd.1 db (by omega) (by omega) (by omega) (by omega) (bits_kq (by omega)) hlen8 (by omega) ?_
      simp only [e_var, v_v, v_o, e_non, e_bl, e_int, e_str, e_nil, e_dnil, e_cons, con_, e_tup, ls_, e_lst, e_bin, e_neg, int_, e_nt, e_and, e_or, e_ife, e_cmp, e_isc, e_call, e_pick, pick_, e_b1, e_b2, e_isin, e_ix, e_slc, e_rng1, e_rng2, e_enm, e_zp, zp_l, zp_t, e_comp, turn_, oc_s, oc_n, cmp_nil, cmp_cons, x_asg, x_par, x_sto, sto_, x_app, app_, x_ext, ext_, x_ex, x_pop, pop_, x_popj, x_ret, ret_v, ret_o, ret_k, x_ifs, x_brk, x_cnt, x_pas, sq_n, sq_b, sq_c, sq_r, x_seq, forB_, x_fr, whlC_, x_whl, okK_some, okK_ite, okK_map, okK_bind, trK_t, trK_f, trK_map, K2_some, K3_some, frz, bindT, wipe, R.d_v, R.d_o, R.d_k, R.st_v, R.st_o, R.st_k, binD, cmpD, truth, isinD, ix_d, ix_l, ix_t, get_d, e_get, e_rev, e_scons, x_par3, aI0, aI1, b1_len_d, b1_int, b1_intb, b1_sorted_d, partD, slcD, b1_len_l, b1_len_t, b1_len_s, b1_abs, b1_all, b1_any, b1_sum, b1_tup_l, b1_tup_t, b1_lst_l, b1_lst_t, b1_max, b1_min, b1_sorted, b2D, iscD, items, begin_, List.map_cons, List.map_nil, List.replicate_succ, List.replicate_zero, List.nil_append, List.cons_append, List.getElem?_cons_zero, List.getElem?_cons_succ, List.set_cons_zero, List.set_cons_succ, Option.bind_some, Option.map_some, Nat.reduceSub, Nat.reduceAdd, Int.toNat_natCast, Bool.not_false, Bool.not_true, okK_none]
      refine ⟨?_, trivial⟩
      rw [show ((1 : Int) + (j : Nat) - 1).toNat = j by omega]
    · have e5 : ((List.range wide).map fun i => D.int ((1 : Int) + (i : Nat))).map (fun d' => match d' with | .int m' => Qd (val d i (kq (m' - 1).toNat)) | _ => .non) = (row ls i).map Qd := by
        have hr : row ls i ∈ ls := by
          rw [row, List.getD_eq_getElem?_getD, List.getElem?_eq_getElem (by omega)]; exact List.getElem_mem _
        rw [List.map_map]
        refine List.ext_getElem (by rw [List.length_map, List.length_range, List.length_map, hw _ hr]) fun j h1 h2 => ?_
        rw [List.length_map, List.length_range] at h1
        rw [List.length_map] at h2
        simp only [List.getElem_map, List.getElem_range, Function.comp]
        rw [show ((1 : Int) + (j : Nat) - 1).toNat = j by omega, told_val hw hi hd (by omega) h1, ← getD_eq h2]
      have at' : L2.atI (ls.map tQ) ((i : Nat) : Int) = some (tQ (row ls i)) := L2.atI_nat (by
        rw [List.getElem?_map, List.getElem?_eq_getElem (by omega), row, List.getD_eq_getElem?_getD, List.getElem?_eq_getElem (by omega)]; rfl)
      rw [e5]
      try simp only [e_var, v_v, v_o, e_non, e_bl, e_int, e_str, e_nil, e_dnil, e_cons, con_, e_tup, ls_, e_lst, e_bin, e_neg, int_, e_nt, e_and, e_or, e_ife, e_cmp, e_isc, e_call, e_pick, pick_, e_b1, e_b2, e_isin, e_ix, e_slc, e_rng1, e_rng2, e_enm, e_zp, zp_l, zp_t, e_comp, turn_, oc_s, oc_n, cmp_nil, x_asg, x_par, x_sto, sto_, x_app, app_, x_ext, ext_, x_ex, x_pop, pop_, x_popj, x_ret, ret_v, ret_o, ret_k, x_ifs, x_brk, x_cnt, x_pas, sq_b, sq_c, sq_r, x_seq, forB_, x_fr, whlC_, x_whl, okK_some, okK_ite, okK_map, okK_bind, trK_t, trK_f, trK_map, K2_some, K3_some, frz, bindT, wipe, R.d_v, R.d_o, R.d_k, R.st_v, R.st_o, R.st_k, binD, cmpD, truth, isinD, ix_d, ix_l, ix_t, get_d, e_get, e_rev, e_scons, x_par3, aI0, aI1, b1_len_d, b1_int, b1_intb, b1_sorted_d, partD, slcD, b1_len_l, b1_len_t, b1_len_s, b1_abs, b1_all, b1_any, b1_sum, b1_tup_l, b1_tup_t, b1_lst_l, b1_lst_t, b1_max, b1_min, b1_sorted, b2D, iscD, items, begin_, List.map_cons, List.map_nil, List.replicate_succ, List.replicate_zero, List.nil_append, List.cons_append, List.getElem?_cons_zero, List.getElem?_cons_succ, List.set_cons_zero, List.set_cons_succ, Option.bind_some, Option.map_some, Nat.reduceSub, Nat.reduceAdd, Int.toNat_natCast, Bool.not_false, Bool.not_true, okK_none]
      rw [at']
      simp only [e_var, v_v, v_o, e_non, e_bl, e_int, e_str, e_nil, e_dnil, e_cons, con_, e_tup, ls_, e_lst, e_bin, e_neg, int_, e_nt, e_and, e_or, e_ife, e_cmp, e_isc, e_call, e_pick, pick_, e_b1, e_b2, e_isin, e_ix, e_slc, e_rng1, e_rng2, e_enm, e_zp, zp_l, zp_t, e_comp, turn_, oc_s, oc_n, cmp_nil, x_asg, x_par, x_sto, sto_, x_app, app_, x_ext, ext_, x_ex, x_pop, pop_, x_popj, x_ret, ret_v, ret_o, ret_k, x_ifs, x_brk, x_cnt, x_pas, sq_b, sq_c, sq_r, x_seq, forB_, x_fr, whlC_, x_whl, okK_some, okK_ite, okK_map, okK_bind, trK_t, trK_f, trK_map, K2_some, K3_some, frz, bindT, wipe, R.d_v, R.d_o, R.d_k, R.st_v, R.st_o, R.st_k, binD, cmpD, truth, isinD, ix_d, ix_l, ix_t, get_d, e_get, e_rev, e_scons, x_par3, aI0, aI1, b1_len_d, b1_int, b1_intb, b1_sorted_d, partD, slcD, b1_len_l, b1_len_t, b1_len_s, b1_abs, b1_all, b1_any, b1_sum, b1_tup_l, b1_tup_t, b1_lst_l, b1_lst_t, b1_max, b1_min, b1_sorted, b2D, iscD, items, begin_, List.map_cons, List.map_nil, List.replicate_succ, List.replicate_zero, List.nil_append, List.cons_append, List.getElem?_cons_zero, List.getElem?_cons_succ, List.set_cons_zero, List.set_cons_succ, Option.bind_some, Option.map_some, Nat.reduceSub, Nat.reduceAdd, Int.toNat_natCast, Bool.not_false, Bool.not_true, okK_none, eq_Ql, decide_true]
      exact ⟨_, _, _, _, rfl⟩
  · rintro ρ u' ⟨y10, y11, y12, y13, rfl⟩
    exact q _ _ _ _ _
theorem s_pB (n : Nat) (hO : PkOk O) (hW : 2 ^ 8001 ≤ W) {y2 y3 y4 y5 y6 y7 y8 y9 y10 y11 y12 y13 : Option R} {u : τ} {kk : Out → Rho → τ → Prop}
    (q : ∀ y3 y4 y6 y7 y8 y9 y10 y11 y12 y13 u, kk .nx [none, some (.v .src), y2, y3, y4, y5, y6, y7, y8, y9, y10, y11, y12, y13] u) :
    exK O (run O W prog (n + 5)) W pB [none, some (.v .src), y2, y3, y4, y5, y6, y7, y8, y9, y10, y11, y12, y13] u kk := by
  have h1000 : 1000 < W := Nat.lt_of_lt_of_le (by decide +kernel) hW
  unfold pB
  rw [x_seq]
  simp only [e_var, v_v, v_o, e_non, e_bl, e_int, e_str, e_nil, e_dnil, e_cons, con_, e_tup, ls_, e_lst, e_bin, e_neg, int_, e_nt, e_and, e_or, e_ife, e_cmp, e_isc, e_call, e_pick, pick_, e_b1, e_b2, e_isin, e_ix, e_slc, e_rng1, e_rng2, e_enm, e_zp, zp_l, zp_t, e_comp, turn_, oc_s, oc_n, cmp_nil, x_asg, x_par, x_sto, sto_, x_app, app_, x_ext, ext_, x_ex, x_pop, pop_, x_popj, x_ret, ret_v, ret_o, ret_k, x_ifs, x_brk, x_cnt, x_pas, sq_b, sq_c, sq_r, x_seq, forB_, x_fr, whlC_, x_whl, okK_some, okK_ite, okK_map, okK_bind, trK_t, trK_f, trK_map, K2_some, K3_some, frz, bindT, wipe, R.d_v, R.d_o, R.d_k, R.st_v, R.st_o, R.st_k, binD, cmpD, truth, isinD, ix_d, ix_l, ix_t, get_d, e_get, e_rev, e_scons, x_par3, aI0, aI1, b1_len_d, b1_int, b1_intb, b1_sorted_d, partD, slcD, b1_len_l, b1_len_t, b1_len_s, b1_abs, b1_all, b1_any, b1_sum, b1_tup_l, b1_tup_t, b1_lst_l, b1_lst_t, b1_max, b1_min, b1_sorted, b2D, iscD, items, begin_, List.map_cons, List.map_nil, List.replicate_succ, List.replicate_zero, List.nil_append, List.cons_append, List.getElem?_cons_zero, List.getElem?_cons_succ, List.set_cons_zero, List.set_cons_succ, Option.bind_some, Option.map_some, Nat.reduceSub, Nat.reduceAdd, Int.toNat_natCast, Bool.not_false, Bool.not_true, okK_none]
  refine ⟨by decide, by decide, ?_⟩
  obtain ⟨j, hj, lj⟩ := pick_k hO u 3 (by omega)
  have hj : (O u 3).1 = (j : Int) := hj
  obtain ⟨i, hi, li⟩ := pick_k hO (O u 3).2 3 (by omega)
  have hi : (O (O u 3).2 3).1 = (i : Int) := hi
  rw [hj, hi]
  generalize (O (O u 3).2 3).2 = u1
  clear hj hi
  obtain ⟨wide, hwd⟩ : ∃ wide, wide = 1 + j := ⟨_, rfl⟩
  obtain ⟨long, hlg⟩ : ∃ long, long = 1 + i := ⟨_, rfl⟩
  rw [show (1 : Int) + (j : Nat) = ((wide : Nat) : Int) by omega, show (1 : Int) + (i : Nat) = ((long : Nat) : Int) by omega]
  rw [sq_n, x_seq]
  simp only [e_var, v_v, v_o, e_non, e_bl, e_int, e_str, e_nil, e_dnil, e_cons, con_, e_tup, ls_, e_lst, e_bin, e_neg, int_, e_nt, e_and, e_or, e_ife, e_cmp, e_isc, e_call, e_pick, pick_, e_b1, e_b2, e_isin, e_ix, e_slc, e_rng1, e_rng2, e_enm, e_zp, zp_l, zp_t, e_comp, turn_, oc_s, oc_n, cmp_nil, x_asg, x_par, x_sto, sto_, x_app, app_, x_ext, ext_, x_ex, x_pop, pop_, x_popj, x_ret, ret_v, ret_o, ret_k, x_ifs, x_brk, x_cnt, x_pas, sq_b, sq_c, sq_r, x_seq, forB_, x_fr, whlC_, x_whl, okK_some, okK_ite, okK_map, okK_bind, trK_t, trK_f, trK_map, K2_some, K3_some, frz, bindT, wipe, R.d_v, R.d_o, R.d_k, R.st_v, R.st_o, R.st_k, binD, cmpD, truth, isinD, ix_d, ix_l, ix_t, get_d, e_get, e_rev, e_scons, x_par3, aI0, aI1, b1_len_d, b1_int, b1_intb, b1_sorted_d, partD, slcD, b1_len_l, b1_len_t, b1_len_s, b1_abs, b1_all, b1_any, b1_sum, b1_tup_l, b1_tup_t, b1_lst_l, b1_lst_t, b1_max, b1_min, b1_sorted, b2D, iscD, items, begin_, List.map_cons, List.map_nil, List.replicate_succ, List.replicate_zero, List.nil_append, List.cons_append, List.getElem?_cons_zero, List.getElem?_cons_succ, List.set_cons_zero, List.set_cons_succ, Option.bind_some, Option.map_some, Nat.reduceSub, Nat.reduceAdd, Int.toNat_natCast, Bool.not_false, Bool.not_true, okK_none]
  refine ⟨(by simp only [List.length_cons, List.length_nil, List.length_append, List.length_map, sizeLine_eq]; omega), (by simp only [List.length_cons, List.length_nil, List.length_append, List.length_map, sizeLine_eq]; omega), (by simp only [List.length_cons, List.length_nil, List.length_append, List.length_map, sizeLine_eq]; omega), (by simp only [List.length_cons, List.length_nil, List.length_append, List.length_map, sizeLine_eq]; omega), (by simp only [List.length_cons, List.length_nil, List.length_append, List.length_map, sizeLine_eq]; omega), (by simp only [List.length_cons, List.length_nil, List.length_append, List.length_map, sizeLine_eq]; omega), (by simp only [List.length_cons, List.length_nil, List.length_append, List.length_map, sizeLine_eq]; omega), (by simp only [List.length_cons, List.length_nil, List.length_append, List.length_map, sizeLine_eq]; omega), (by simp only [List.length_cons, List.length_nil, List.length_append, List.length_map, sizeLine_eq]; omega), (by simp only [List.length_cons, List.length_nil, List.length_append, List.length_map, sizeLine_eq]; omega), ?_⟩
  refine s_of (n + 4) hO (by simp) (by simp only [List.length_cons, List.length_nil]; omega) fun c hc u2 => ?_
  have hc : QD c := by
    simp only [List.mem_cons, List.not_mem_nil, or_false] at hc
    rcases hc with rfl | rfl | rfl
    · exact ⟨((1 : Int) : Rat), rfl, PQ_int (by decide)⟩
    · exact ⟨Rat.divInt 1 2, rfl, PQ_half⟩
    · exact ⟨((12 : Int) : Rat), rfl, PQ_int (by decide)⟩
  simp only [e_var, v_v, v_o, e_non, e_bl, e_int, e_str, e_nil, e_dnil, e_cons, con_, e_tup, ls_, e_lst, e_bin, e_neg, int_, e_nt, e_and, e_or, e_ife, e_cmp, e_isc, e_call, e_pick, pick_, e_b1, e_b2, e_isin, e_ix, e_slc, e_rng1, e_rng2, e_enm, e_zp, zp_l, zp_t, e_comp, turn_, oc_s, oc_n, cmp_nil, x_asg, x_par, x_sto, sto_, x_app, app_, x_ext, ext_, x_ex, x_pop, pop_, x_popj, x_ret, ret_v, ret_o, ret_k, x_ifs, x_brk, x_cnt, x_pas, sq_b, sq_c, sq_r, x_seq, forB_, x_fr, whlC_, x_whl, okK_some, okK_ite, okK_map, okK_bind, trK_t, trK_f, trK_map, K2_some, K3_some, frz, bindT, wipe, R.d_v, R.d_o, R.d_k, R.st_v, R.st_o, R.st_k, binD, cmpD, truth, isinD, ix_d, ix_l, ix_t, get_d, e_get, e_rev, e_scons, x_par3, aI0, aI1, b1_len_d, b1_int, b1_intb, b1_sorted_d, partD, slcD, b1_len_l, b1_len_t, b1_len_s, b1_abs, b1_all, b1_any, b1_sum, b1_tup_l, b1_tup_t, b1_lst_l, b1_lst_t, b1_max, b1_min, b1_sorted, b2D, iscD, items, begin_, List.map_cons, List.map_nil, List.replicate_succ, List.replicate_zero, List.nil_append, List.cons_append, List.getElem?_cons_zero, List.getElem?_cons_succ, List.set_cons_zero, List.set_cons_succ, Option.bind_some, Option.map_some, Nat.reduceSub, Nat.reduceAdd, Int.toNat_natCast, Bool.not_false, Bool.not_true, okK_none]
  refine ⟨(by simp only [List.length_cons, List.length_nil, List.length_append, List.length_map, sizeLine_eq]; omega), ?_⟩
  have hsome : ∀ d ∈ [D.tup [.int 0, .int 1], .tup [.int 0, .int 1], .tup [.int 2, .int 1], .tup [.int (-2), .int 1], .tup [.int 4, .int 1], .tup [.int 6, .int 1], c], QD d := fun d hd => by
    simp only [List.mem_cons, List.not_mem_nil, or_false] at hd
    rcases hd with rfl | rfl | rfl | rfl | rfl | rfl | rfl
    · exact ⟨((0 : Int) : Rat), rfl, PQ_int (by decide)⟩
    · exact ⟨((0 : Int) : Rat), rfl, PQ_int (by decide)⟩
    · exact ⟨((2 : Int) : Rat), rfl, PQ_int (by decide)⟩
    · exact ⟨((-2 : Int) : Rat), rfl, PQ_int (by decide)⟩
    · exact ⟨((4 : Int) : Rat), rfl, PQ_int (by decide)⟩
    · exact ⟨((6 : Int) : Rat), rfl, PQ_int (by decide)⟩
    · exact hc
  have hsl : [D.tup [.int 0, .int 1], .tup [.int 0, .int 1], .tup [.int 2, .int 1], .tup [.int (-2), .int 1], .tup [.int 4, .int 1], .tup [.int 6, .int 1], c].length = 7 := rfl
  generalize hS : [D.tup [.int 0, .int 1], .tup [.int 0, .int 1], .tup [.int 2, .int 1], .tup [.int (-2), .int 1], .tup [.int 4, .int 1], .tup [.int 6, .int 1], c] = sm at *
  have hsn : sm ≠ [] := fun z => by rw [z] at hsl; simp at hsl
  rw [sq_n, x_seq]
  simp only [e_var, v_v, v_o, e_non, e_bl, e_int, e_str, e_nil, e_dnil, e_cons, con_, e_tup, ls_, e_lst, e_bin, e_neg, int_, e_nt, e_and, e_or, e_ife, e_cmp, e_isc, e_call, e_pick, pick_, e_b1, e_b2, e_isin, e_ix, e_slc, e_rng1, e_rng2, e_enm, e_zp, zp_l, zp_t, e_comp, turn_, oc_s, oc_n, cmp_nil, x_asg, x_par, x_sto, sto_, x_app, app_, x_ext, ext_, x_ex, x_pop, pop_, x_popj, x_ret, ret_v, ret_o, ret_k, x_ifs, x_brk, x_cnt, x_pas, sq_b, sq_c, sq_r, x_seq, forB_, x_fr, whlC_, x_whl, okK_some, okK_ite, okK_map, okK_bind, trK_t, trK_f, trK_map, K2_some, K3_some, frz, bindT, wipe, R.d_v, R.d_o, R.d_k, R.st_v, R.st_o, R.st_k, binD, cmpD, truth, isinD, ix_d, ix_l, ix_t, get_d, e_get, e_rev, e_scons, x_par3, aI0, aI1, b1_len_d, b1_int, b1_intb, b1_sorted_d, partD, slcD, b1_len_l, b1_len_t, b1_len_s, b1_abs, b1_all, b1_any, b1_sum, b1_tup_l, b1_tup_t, b1_lst_l, b1_lst_t, b1_max, b1_min, b1_sorted, b2D, iscD, items, begin_, List.map_cons, List.map_nil, List.replicate_succ, List.replicate_zero, List.nil_append, List.cons_append, List.getElem?_cons_zero, List.getElem?_cons_succ, List.set_cons_zero, List.set_cons_succ, Option.bind_some, Option.map_some, Nat.reduceSub, Nat.reduceAdd, Int.toNat_natCast, Bool.not_false, Bool.not_true, okK_none]
  rw [rangeD_len]
  refine ⟨by constructor <;> omega, by rw [sizeLine_eq]; omega, ?_⟩
  refine cmp_inv (LD wide) _ _ (fun d hd u' => ?_) fun ys u3 hly hys => ?_
  · rw [rangeD_0] at hd
    obtain ⟨m, hm, rfl⟩ := List.mem_map.mp hd
    simp only [e_var, v_v, v_o, e_non, e_bl, e_int, e_str, e_nil, e_dnil, e_cons, con_, e_tup, ls_, e_lst, e_bin, e_neg, int_, e_nt, e_and, e_or, e_ife, e_cmp, e_isc, e_call, e_pick, pick_, e_b1, e_b2, e_isin, e_ix, e_slc, e_rng1, e_rng2, e_enm, e_zp, zp_l, zp_t, e_comp, turn_, oc_s, oc_n, cmp_nil, x_asg, x_par, x_sto, sto_, x_app, app_, x_ext, ext_, x_ex, x_pop, pop_, x_popj, x_ret, ret_v, ret_o, ret_k, x_ifs, x_brk, x_cnt, x_pas, sq_b, sq_c, sq_r, x_seq, forB_, x_fr, whlC_, x_whl, okK_some, okK_ite, okK_map, okK_bind, trK_t, trK_f, trK_map, K2_some, K3_some, frz, bindT, wipe, R.d_v, R.d_o, R.d_k, R.st_v, R.st_o, R.st_k, binD, cmpD, truth, isinD, ix_d, ix_l, ix_t, get_d, e_get, e_rev, e_scons, x_par3, aI0, aI1, b1_len_d, b1_int, b1_intb, b1_sorted_d, partD, slcD, b1_len_l, b1_len_t, b1_len_s, b1_abs, b1_all, b1_any, b1_sum, b1_tup_l, b1_tup_t, b1_lst_l, b1_lst_t, b1_max, b1_min, b1_sorted, b2D, iscD, items, begin_, List.map_cons, List.map_nil, List.replicate_succ, List.replicate_zero, List.nil_append, List.cons_append, List.getElem?_cons_zero, List.getElem?_cons_succ, List.set_cons_zero, List.set_cons_succ, Option.bind_some, Option.map_some, Nat.reduceSub, Nat.reduceAdd, Int.toNat_natCast, Bool.not_false, Bool.not_true, okK_none]
    rw [rangeD_len]
    refine ⟨by constructor <;> omega, by rw [sizeLine_eq]; omega, ?_⟩
    refine cmp_inv QD _ _ (fun d hd u' => ?_) fun ys u3 hly hys => ?_
    · rw [rangeD_0] at hd
      obtain ⟨m', hm', rfl⟩ := List.mem_map.mp hd
      simp only [e_var, v_v, v_o, e_non, e_bl, e_int, e_str, e_nil, e_dnil, e_cons, con_, e_tup, ls_, e_lst, e_bin, e_neg, int_, e_nt, e_and, e_or, e_ife, e_cmp, e_isc, e_call, e_pick, pick_, e_b1, e_b2, e_isin, e_ix, e_slc, e_rng1, e_rng2, e_enm, e_zp, zp_l, zp_t, e_comp, turn_, oc_s, oc_n, cmp_nil, cmp_cons, x_asg, x_par, x_sto, sto_, x_app, app_, x_ext, ext_, x_ex, x_pop, pop_, x_popj, x_ret, ret_v, ret_o, ret_k, x_ifs, x_brk, x_cnt, x_pas, sq_n, sq_b, sq_c, sq_r, x_seq, forB_, x_fr, whlC_, x_whl, okK_some, okK_ite, okK_map, okK_bind, trK_t, trK_f, trK_map, K2_some, K3_some, frz, bindT, wipe, R.d_v, R.d_o, R.d_k, R.st_v, R.st_o, R.st_k, binD, cmpD, truth, isinD, ix_d, ix_l, ix_t, get_d, e_get, e_rev, e_scons, x_par3, aI0, aI1, b1_len_d, b1_int, b1_intb, b1_sorted_d, partD, slcD, b1_len_l, b1_len_t, b1_len_s, b1_abs, b1_all, b1_any, b1_sum, b1_tup_l, b1_tup_t, b1_lst_l, b1_lst_t, b1_max, b1_min, b1_sorted, b2D, iscD, items, begin_, List.map_cons, List.map_nil, List.replicate_succ, List.replicate_zero, List.nil_append, List.cons_append, List.getElem?_cons_zero, List.getElem?_cons_succ, List.set_cons_zero, List.set_cons_succ, Option.bind_some, Option.map_some, Nat.reduceSub, Nat.reduceAdd, Int.toNat_natCast, Bool.not_false, Bool.not_true, okK_none]
      refine s_of (n + 4) hO hsn (by omega) fun d hd u4 => ?_
      simp only [e_var, v_v, v_o, e_non, e_bl, e_int, e_str, e_nil, e_dnil, e_cons, con_, e_tup, ls_, e_lst, e_bin, e_neg, int_, e_nt, e_and, e_or, e_ife, e_cmp, e_isc, e_call, e_pick, pick_, e_b1, e_b2, e_isin, e_ix, e_slc, e_rng1, e_rng2, e_enm, e_zp, zp_l, zp_t, e_comp, turn_, oc_s, oc_n, cmp_nil, cmp_cons, x_asg, x_par, x_sto, sto_, x_app, app_, x_ext, ext_, x_ex, x_pop, pop_, x_popj, x_ret, ret_v, ret_o, ret_k, x_ifs, x_brk, x_cnt, x_pas, sq_n, sq_b, sq_c, sq_r, x_seq, forB_, x_fr, whlC_, x_whl, okK_some, okK_ite, okK_map, okK_bind, trK_t, trK_f, trK_map, K2_some, K3_some, frz, bindT, wipe, R.d_v, R.d_o, R.d_k, R.st_v, R.st_o, R.st_k, binD, cmpD, truth, isinD, ix_d, ix_l, ix_t, get_d, e_get, e_rev, e_scons, x_par3, aI0, aI1, b1_len_d, b1_int, b1_intb, b1_sorted_d, partD, slcD, b1_len_l, b1_len_t, b1_len_s, b1_abs, b1_all, b1_any, b1_sum, b1_tup_l, b1_tup_t, b1_lst_l, b1_lst_t, b1_max, b1_min, b1_sorted, b2D, iscD, items, begin_, List.map_cons, List.map_nil, List.replicate_succ, List.replicate_zero, List.nil_append, List.cons_append, List.getElem?_cons_zero, List.getElem?_cons_succ, List.set_cons_zero, List.set_cons_succ, Option.bind_some, Option.map_some, Nat.reduceSub, Nat.reduceAdd, Int.toNat_natCast, Bool.not_false, Bool.not_true, okK_none]
      exact ⟨_, rfl, hsome d hd⟩
    · obtain ⟨l, rfl, hl⟩ := Qs_of hys
      rw [List.length_map, rangeD_len] at hly
      try simp only [e_var, v_v, v_o, e_non, e_bl, e_int, e_str, e_nil, e_dnil, e_cons, con_, e_tup, ls_, e_lst, e_bin, e_neg, int_, e_nt, e_and, e_or, e_ife, e_cmp, e_isc, e_call, e_pick, pick_, e_b1, e_b2, e_isin, e_ix, e_slc, e_rng1, e_rng2, e_enm, e_zp, zp_l, zp_t, e_comp, turn_, oc_s, oc_n, cmp_nil, x_asg, x_par, x_sto, sto_, x_app, app_, x_ext, ext_, x_ex, x_pop, pop_, x_popj, x_ret, ret_v, ret_o, ret_k, x_ifs, x_brk, x_cnt, x_pas, sq_b, sq_c, sq_r, x_seq, forB_, x_fr, whlC_, x_whl, okK_some, okK_ite, okK_map, okK_bind, trK_t, trK_f, trK_map, K2_some, K3_some, frz, bindT, wipe, R.d_v, R.d_o, R.d_k, R.st_v, R.st_o, R.st_k, binD, cmpD, truth, isinD, ix_d, ix_l, ix_t, get_d, e_get, e_rev, e_scons, x_par3, aI0, aI1, b1_len_d, b1_int, b1_intb, b1_sorted_d, partD, slcD, b1_len_l, b1_len_t, b1_len_s, b1_abs, b1_all, b1_any, b1_sum, b1_tup_l, b1_tup_t, b1_lst_l, b1_lst_t, b1_max, b1_min, b1_sorted, b2D, iscD, items, begin_, List.map_cons, List.map_nil, List.replicate_succ, List.replicate_zero, List.nil_append, List.cons_append, List.getElem?_cons_zero, List.getElem?_cons_succ, List.set_cons_zero, List.set_cons_succ, Option.bind_some, Option.map_some, Nat.reduceSub, Nat.reduceAdd, Int.toNat_natCast, Bool.not_false, Bool.not_true, okK_none]
      exact ⟨_, rfl, l, rfl, hly, hl⟩
  · obtain ⟨ls, rfl, hw, hP⟩ := Ls_of hys
    rw [List.length_map, rangeD_len] at hly
    rw [sq_n, x_seq]
    try simp only [e_var, v_v, v_o, e_non, e_bl, e_int, e_str, e_nil, e_dnil, e_cons, con_, e_tup, ls_, e_lst, e_bin, e_neg, int_, e_nt, e_and, e_or, e_ife, e_cmp, e_isc, e_call, e_pick, pick_, e_b1, e_b2, e_isin, e_ix, e_slc, e_rng1, e_rng2, e_enm, e_zp, zp_l, zp_t, e_comp, turn_, oc_s, oc_n, cmp_nil, x_asg, x_par, x_sto, sto_, x_app, app_, x_ext, ext_, x_ex, x_pop, pop_, x_popj, x_ret, ret_v, ret_o, ret_k, x_ifs, x_brk, x_cnt, x_pas, sq_b, sq_c, sq_r, x_seq, forB_, x_fr, whlC_, x_whl, okK_some, okK_ite, okK_map, okK_bind, trK_t, trK_f, trK_map, K2_some, K3_some, frz, bindT, wipe, R.d_v, R.d_o, R.d_k, R.st_v, R.st_o, R.st_k, binD, cmpD, truth, isinD, ix_d, ix_l, ix_t, get_d, e_get, e_rev, e_scons, x_par3, aI0, aI1, b1_len_d, b1_int, b1_intb, b1_sorted_d, partD, slcD, b1_len_l, b1_len_t, b1_len_s, b1_abs, b1_all, b1_any, b1_sum, b1_tup_l, b1_tup_t, b1_lst_l, b1_lst_t, b1_max, b1_min, b1_sorted, b2D, iscD, items, begin_, List.map_cons, List.map_nil, List.replicate_succ, List.replicate_zero, List.nil_append, List.cons_append, List.getElem?_cons_zero, List.getElem?_cons_succ, List.set_cons_zero, List.set_cons_succ, Option.bind_some, Option.map_some, Nat.reduceSub, Nat.reduceAdd, Int.toNat_natCast, Bool.not_false, Bool.not_true, okK_none]
    have hb : ∀ l ∈ ls, ∀ x ∈ l, bt 2 6 x := fun l hl x hx => (hP l hl x hx).1
    have hb8 : ∀ l ∈ ls, ∀ x ∈ l, bits 8 x := fun l hl x hx => (hP l hl x hx).2
    have ne : ls ≠ [] := fun z => by rw [z] at hly; simp at hly; omega
    have sht : Sh (ls.length * 10 + 1) 3 (.tup (ls.map tQ)) := by
      have := sh_tup (z := 10) (d := 2) (xs := ls.map tQ) fun z hz => by
        obtain ⟨l, hl, rfl⟩ := List.mem_map.mp hz
        have := sh_tup (z := 3) (d := 1) (xs := l.map Qd) fun y hy => by
          obtain ⟨x, hx, rfl⟩ := List.mem_map.mp hy
          exact sh_Q (hb8 l hl x hx) (by omega)
        rw [List.length_map, hw l hl] at this
        exact this.mono (by omega) (by omega)
      rw [List.length_map] at this
      exact this
    refine s_through n hb hw (fun z => absurd z ne) (by omega) (by omega) (by omega) (by omega) h1000 (fun hn => ?_) (fun hin d cd hd dl db => ?_)
    · try simp only [e_var, v_v, v_o, e_non, e_bl, e_int, e_str, e_nil, e_dnil, e_cons, con_, e_tup, ls_, e_lst, e_bin, e_neg, int_, e_nt, e_and, e_or, e_ife, e_cmp, e_isc, e_call, e_pick, pick_, e_b1, e_b2, e_isin, e_ix, e_slc, e_rng1, e_rng2, e_enm, e_zp, zp_l, zp_t, e_comp, turn_, oc_s, oc_n, cmp_nil, x_asg, x_par, x_sto, sto_, x_app, app_, x_ext, ext_, x_ex, x_pop, pop_, x_popj, x_ret, ret_v, ret_o, ret_k, x_ifs, x_brk, x_cnt, x_pas, sq_b, sq_c, sq_r, x_seq, forB_, x_fr, whlC_, x_whl, okK_some, okK_ite, okK_map, okK_bind, trK_t, trK_f, trK_map, K2_some, K3_some, frz, bindT, wipe, R.d_v, R.d_o, R.d_k, R.st_v, R.st_o, R.st_k, binD, cmpD, truth, isinD, ix_d, ix_l, ix_t, get_d, e_get, e_rev, e_scons, x_par3, aI0, aI1, b1_len_d, b1_int, b1_intb, b1_sorted_d, partD, slcD, b1_len_l, b1_len_t, b1_len_s, b1_abs, b1_all, b1_any, b1_sum, b1_tup_l, b1_tup_t, b1_lst_l, b1_lst_t, b1_max, b1_min, b1_sorted, b2D, iscD, items, begin_, List.map_cons, List.map_nil, List.replicate_succ, List.replicate_zero, List.nil_append, List.cons_append, List.getElem?_cons_zero, List.getElem?_cons_succ, List.set_cons_zero, List.set_cons_succ, Option.bind_some, Option.map_some, Nat.reduceSub, Nat.reduceAdd, Int.toNat_natCast, Bool.not_false, Bool.not_true, okK_none]
      refine repr_s sht (by omega) (by omega) ?_
      simp only [e_var, v_v, v_o, e_non, e_bl, e_int, e_str, e_nil, e_dnil, e_cons, con_, e_tup, ls_, e_lst, e_bin, e_neg, int_, e_nt, e_and, e_or, e_ife, e_cmp, e_isc, e_call, e_pick, pick_, e_b1, e_b2, e_isin, e_ix, e_slc, e_rng1, e_rng2, e_enm, e_zp, zp_l, zp_t, e_comp, turn_, oc_s, oc_n, cmp_nil, x_asg, x_par, x_sto, sto_, x_app, app_, x_ext, ext_, x_ex, x_pop, pop_, x_popj, x_ret, ret_v, ret_o, ret_k, x_ifs, x_brk, x_cnt, x_pas, sq_b, sq_c, sq_r, x_seq, forB_, x_fr, whlC_, x_whl, okK_some, okK_ite, okK_map, okK_bind, trK_t, trK_f, trK_map, K2_some, K3_some, frz, bindT, wipe, R.d_v, R.d_o, R.d_k, R.st_v, R.st_o, R.st_k, binD, cmpD, truth, isinD, ix_d, ix_l, ix_t, get_d, e_get, e_rev, e_scons, x_par3, aI0, aI1, b1_len_d, b1_int, b1_intb, b1_sorted_d, partD, slcD, b1_len_l, b1_len_t, b1_len_s, b1_abs, b1_all, b1_any, b1_sum, b1_tup_l, b1_tup_t, b1_lst_l, b1_lst_t, b1_max, b1_min, b1_sorted, b2D, iscD, items, begin_, List.map_cons, List.map_nil, List.replicate_succ, List.replicate_zero, List.nil_append, List.cons_append, List.getElem?_cons_zero, List.getElem?_cons_succ, List.set_cons_zero, List.set_cons_succ, Option.bind_some, Option.map_some, Nat.reduceSub, Nat.reduceAdd, Int.toNat_natCast, Bool.not_false, Bool.not_true, okK_none]
      rw [sq_n, x_seq]
      simp only [e_var, v_v, v_o, e_non, e_bl, e_int, e_str, e_nil, e_dnil, e_cons, con_, e_tup, ls_, e_lst, e_bin, e_neg, int_, e_nt, e_and, e_or, e_ife, e_cmp, e_isc, e_call, e_pick, pick_, e_b1, e_b2, e_isin, e_ix, e_slc, e_rng1, e_rng2, e_enm, e_zp, zp_l, zp_t, e_comp, turn_, oc_s, oc_n, cmp_nil, x_asg, x_par, x_sto, sto_, x_app, app_, x_ext, ext_, x_ex, x_pop, pop_, x_popj, x_ret, ret_v, ret_o, ret_k, x_ifs, x_brk, x_cnt, x_pas, sq_b, sq_c, sq_r, x_seq, forB_, x_fr, whlC_, x_whl, okK_some, okK_ite, okK_map, okK_bind, trK_t, trK_f, trK_map, K2_some, K3_some, frz, bindT, wipe, R.d_v, R.d_o, R.d_k, R.st_v, R.st_o, R.st_k, binD, cmpD, truth, isinD, ix_d, ix_l, ix_t, get_d, e_get, e_rev, e_scons, x_par3, aI0, aI1, b1_len_d, b1_int, b1_intb, b1_sorted_d, partD, slcD, b1_len_l, b1_len_t, b1_len_s, b1_abs, b1_all, b1_any, b1_sum, b1_tup_l, b1_tup_t, b1_lst_l, b1_lst_t, b1_max, b1_min, b1_sorted, b2D, iscD, items, begin_, List.map_cons, List.map_nil, List.replicate_succ, List.replicate_zero, List.nil_append, List.cons_append, List.getElem?_cons_zero, List.getElem?_cons_succ, List.set_cons_zero, List.set_cons_succ, Option.bind_some, Option.map_some, Nat.reduceSub, Nat.reduceAdd, Int.toNat_natCast, Bool.not_false, Bool.not_true, okK_none]
      refine s_iswhole (n + 2) hb hb8 hw ne (by omega) (by omega) (by omega) (by omega) hW (fun hin => ?_) fun _ => ?_
      · obtain ⟨e, he, h⟩ := hn
        exact absurd (hin e he) h
      · simp only [e_var, v_v, v_o, e_non, e_bl, e_int, e_str, e_nil, e_dnil, e_cons, con_, e_tup, ls_, e_lst, e_bin, e_neg, int_, e_nt, e_and, e_or, e_ife, e_cmp, e_isc, e_call, e_pick, pick_, e_b1, e_b2, e_isin, e_ix, e_slc, e_rng1, e_rng2, e_enm, e_zp, zp_l, zp_t, e_comp, turn_, oc_s, oc_n, cmp_nil, x_asg, x_par, x_sto, sto_, x_app, app_, x_ext, ext_, x_ex, x_pop, pop_, x_popj, x_ret, ret_v, ret_o, ret_k, x_ifs, x_brk, x_cnt, x_pas, sq_b, sq_c, sq_r, x_seq, forB_, x_fr, whlC_, x_whl, okK_some, okK_ite, okK_map, okK_bind, trK_t, trK_f, trK_map, K2_some, K3_some, frz, bindT, wipe, R.d_v, R.d_o, R.d_k, R.st_v, R.st_o, R.st_k, binD, cmpD, truth, isinD, ix_d, ix_l, ix_t, get_d, e_get, e_rev, e_scons, x_par3, aI0, aI1, b1_len_d, b1_int, b1_intb, b1_sorted_d, partD, slcD, b1_len_l, b1_len_t, b1_len_s, b1_abs, b1_all, b1_any, b1_sum, b1_tup_l, b1_tup_t, b1_lst_l, b1_lst_t, b1_max, b1_min, b1_sorted, b2D, iscD, items, begin_, List.map_cons, List.map_nil, List.replicate_succ, List.replicate_zero, List.nil_append, List.cons_append, List.getElem?_cons_zero, List.getElem?_cons_succ, List.set_cons_zero, List.set_cons_succ, Option.bind_some, Option.map_some, Nat.reduceSub, Nat.reduceAdd, Int.toNat_natCast, Bool.not_false, Bool.not_true, okK_none, eq_bl, bne_self_eq_false, beq_self_eq_true, Bool.true_bne]
        refine repr_s sht (by omega) (by omega) (eq_shw sht ?_)
        simp only [e_var, v_v, v_o, e_non, e_bl, e_int, e_str, e_nil, e_dnil, e_cons, con_, e_tup, ls_, e_lst, e_bin, e_neg, int_, e_nt, e_and, e_or, e_ife, e_cmp, e_isc, e_call, e_pick, pick_, e_b1, e_b2, e_isin, e_ix, e_slc, e_rng1, e_rng2, e_enm, e_zp, zp_l, zp_t, e_comp, turn_, oc_s, oc_n, cmp_nil, x_asg, x_par, x_sto, sto_, x_app, app_, x_ext, ext_, x_ex, x_pop, pop_, x_popj, x_ret, ret_v, ret_o, ret_k, x_ifs, x_brk, x_cnt, x_pas, sq_b, sq_c, sq_r, x_seq, forB_, x_fr, whlC_, x_whl, okK_some, okK_ite, okK_map, okK_bind, trK_t, trK_f, trK_map, K2_some, K3_some, frz, bindT, wipe, R.d_v, R.d_o, R.d_k, R.st_v, R.st_o, R.st_k, binD, cmpD, truth, isinD, ix_d, ix_l, ix_t, get_d, e_get, e_rev, e_scons, x_par3, aI0, aI1, b1_len_d, b1_int, b1_intb, b1_sorted_d, partD, slcD, b1_len_l, b1_len_t, b1_len_s, b1_abs, b1_all, b1_any, b1_sum, b1_tup_l, b1_tup_t, b1_lst_l, b1_lst_t, b1_max, b1_min, b1_sorted, b2D, iscD, items, begin_, List.map_cons, List.map_nil, List.replicate_succ, List.replicate_zero, List.nil_append, List.cons_append, List.getElem?_cons_zero, List.getElem?_cons_succ, List.set_cons_zero, List.set_cons_succ, Option.bind_some, Option.map_some, Nat.reduceSub, Nat.reduceAdd, Int.toNat_natCast, Bool.not_false, Bool.not_true, okK_none]
        rw [sq_n]
        simp only [e_var, v_v, v_o, e_non, e_bl, e_int, e_str, e_nil, e_dnil, e_cons, con_, e_tup, ls_, e_lst, e_bin, e_neg, int_, e_nt, e_and, e_or, e_ife, e_cmp, e_isc, e_call, e_pick, pick_, e_b1, e_b2, e_isin, e_ix, e_slc, e_rng1, e_rng2, e_enm, e_zp, zp_l, zp_t, e_comp, turn_, oc_s, oc_n, cmp_nil, x_asg, x_par, x_sto, sto_, x_app, app_, x_ext, ext_, x_ex, x_pop, pop_, x_popj, x_ret, ret_v, ret_o, ret_k, x_ifs, x_brk, x_cnt, x_pas, sq_b, sq_c, sq_r, x_seq, forB_, x_fr, whlC_, x_whl, okK_some, okK_ite, okK_map, okK_bind, trK_t, trK_f, trK_map, K2_some, K3_some, frz, bindT, wipe, R.d_v, R.d_o, R.d_k, R.st_v, R.st_o, R.st_k, binD, cmpD, truth, isinD, ix_d, ix_l, ix_t, get_d, e_get, e_rev, e_scons, x_par3, aI0, aI1, b1_len_d, b1_int, b1_intb, b1_sorted_d, partD, slcD, b1_len_l, b1_len_t, b1_len_s, b1_abs, b1_all, b1_any, b1_sum, b1_tup_l, b1_tup_t, b1_lst_l, b1_lst_t, b1_max, b1_min, b1_sorted, b2D, iscD, items, begin_, List.map_cons, List.map_nil, List.replicate_succ, List.replicate_zero, List.nil_append, List.cons_append, List.getElem?_cons_zero, List.getElem?_cons_succ, List.set_cons_zero, List.set_cons_succ, Option.bind_some, Option.map_some, Nat.reduceSub, Nat.reduceAdd, Int.toNat_natCast, Bool.not_false, Bool.not_true, okK_none, bne_self_eq_false, Bool.true_bne]
        exact q _ _ _ _ _ _ _ _ _ _ _
    · try simp only [e_var, v_v, v_o, e_non, e_bl, e_int, e_str, e_nil, e_dnil, e_cons, con_, e_tup, ls_, e_lst, e_bin, e_neg, int_, e_nt, e_and, e_or, e_ife, e_cmp, e_isc, e_call, e_pick, pick_, e_b1, e_b2, e_isin, e_ix, e_slc, e_rng1, e_rng2, e_enm, e_zp, zp_l, zp_t, e_comp, turn_, oc_s, oc_n, cmp_nil, x_asg, x_par, x_sto, sto_, x_app, app_, x_ext, ext_, x_ex, x_pop, pop_, x_popj, x_ret, ret_v, ret_o, ret_k, x_ifs, x_brk, x_cnt, x_pas, sq_b, sq_c, sq_r, x_seq, forB_, x_fr, whlC_, x_whl, okK_some, okK_ite, okK_map, okK_bind, trK_t, trK_f, trK_map, K2_some, K3_some, frz, bindT, wipe, R.d_v, R.d_o, R.d_k, R.st_v, R.st_o, R.st_k, binD, cmpD, truth, isinD, ix_d, ix_l, ix_t, get_d, e_get, e_rev, e_scons, x_par3, aI0, aI1, b1_len_d, b1_int, b1_intb, b1_sorted_d, partD, slcD, b1_len_l, b1_len_t, b1_len_s, b1_abs, b1_all, b1_any, b1_sum, b1_tup_l, b1_tup_t, b1_lst_l, b1_lst_t, b1_max, b1_min, b1_sorted, b2D, iscD, items, begin_, List.map_cons, List.map_nil, List.replicate_succ, List.replicate_zero, List.nil_append, List.cons_append, List.getElem?_cons_zero, List.getElem?_cons_succ, List.set_cons_zero, List.set_cons_succ, Option.bind_some, Option.map_some, Nat.reduceSub, Nat.reduceAdd, Int.toNat_natCast, Bool.not_false, Bool.not_true, okK_none]
      refine repr_s sht (by omega) (by omega) ?_
      simp only [e_var, v_v, v_o, e_non, e_bl, e_int, e_str, e_nil, e_dnil, e_cons, con_, e_tup, ls_, e_lst, e_bin, e_neg, int_, e_nt, e_and, e_or, e_ife, e_cmp, e_isc, e_call, e_pick, pick_, e_b1, e_b2, e_isin, e_ix, e_slc, e_rng1, e_rng2, e_enm, e_zp, zp_l, zp_t, e_comp, turn_, oc_s, oc_n, cmp_nil, x_asg, x_par, x_sto, sto_, x_app, app_, x_ext, ext_, x_ex, x_pop, pop_, x_popj, x_ret, ret_v, ret_o, ret_k, x_ifs, x_brk, x_cnt, x_pas, sq_b, sq_c, sq_r, x_seq, forB_, x_fr, whlC_, x_whl, okK_some, okK_ite, okK_map, okK_bind, trK_t, trK_f, trK_map, K2_some, K3_some, frz, bindT, wipe, R.d_v, R.d_o, R.d_k, R.st_v, R.st_o, R.st_k, binD, cmpD, truth, isinD, ix_d, ix_l, ix_t, get_d, e_get, e_rev, e_scons, x_par3, aI0, aI1, b1_len_d, b1_int, b1_intb, b1_sorted_d, partD, slcD, b1_len_l, b1_len_t, b1_len_s, b1_abs, b1_all, b1_any, b1_sum, b1_tup_l, b1_tup_t, b1_lst_l, b1_lst_t, b1_max, b1_min, b1_sorted, b2D, iscD, items, begin_, List.map_cons, List.map_nil, List.replicate_succ, List.replicate_zero, List.nil_append, List.cons_append, List.getElem?_cons_zero, List.getElem?_cons_succ, List.set_cons_zero, List.set_cons_succ, Option.bind_some, Option.map_some, Nat.reduceSub, Nat.reduceAdd, Int.toNat_natCast, Bool.not_false, Bool.not_true, okK_none]
      rw [sq_n, x_seq]
      simp only [e_var, v_v, v_o, e_non, e_bl, e_int, e_str, e_nil, e_dnil, e_cons, con_, e_tup, ls_, e_lst, e_bin, e_neg, int_, e_nt, e_and, e_or, e_ife, e_cmp, e_isc, e_call, e_pick, pick_, e_b1, e_b2, e_isin, e_ix, e_slc, e_rng1, e_rng2, e_enm, e_zp, zp_l, zp_t, e_comp, turn_, oc_s, oc_n, cmp_nil, x_asg, x_par, x_sto, sto_, x_app, app_, x_ext, ext_, x_ex, x_pop, pop_, x_popj, x_ret, ret_v, ret_o, ret_k, x_ifs, x_brk, x_cnt, x_pas, sq_b, sq_c, sq_r, x_seq, forB_, x_fr, whlC_, x_whl, okK_some, okK_ite, okK_map, okK_bind, trK_t, trK_f, trK_map, K2_some, K3_some, frz, bindT, wipe, R.d_v, R.d_o, R.d_k, R.st_v, R.st_o, R.st_k, binD, cmpD, truth, isinD, ix_d, ix_l, ix_t, get_d, e_get, e_rev, e_scons, x_par3, aI0, aI1, b1_len_d, b1_int, b1_intb, b1_sorted_d, partD, slcD, b1_len_l, b1_len_t, b1_len_s, b1_abs, b1_all, b1_any, b1_sum, b1_tup_l, b1_tup_t, b1_lst_l, b1_lst_t, b1_max, b1_min, b1_sorted, b2D, iscD, items, begin_, List.map_cons, List.map_nil, List.replicate_succ, List.replicate_zero, List.nil_append, List.cons_append, List.getElem?_cons_zero, List.getElem?_cons_succ, List.set_cons_zero, List.set_cons_succ, Option.bind_some, Option.map_some, Nat.reduceSub, Nat.reduceAdd, Int.toNat_natCast, Bool.not_false, Bool.not_true, okK_none]
      refine s_iswhole (n + 2) hb hb8 hw ne (by omega) (by omega) (by omega) (by omega) hW (fun _ => ?_) fun hn => ?_
      · simp only [e_var, v_v, v_o, e_non, e_bl, e_int, e_str, e_nil, e_dnil, e_cons, con_, e_tup, ls_, e_lst, e_bin, e_neg, int_, e_nt, e_and, e_or, e_ife, e_cmp, e_isc, e_call, e_pick, pick_, e_b1, e_b2, e_isin, e_ix, e_slc, e_rng1, e_rng2, e_enm, e_zp, zp_l, zp_t, e_comp, turn_, oc_s, oc_n, cmp_nil, x_asg, x_par, x_sto, sto_, x_app, app_, x_ext, ext_, x_ex, x_pop, pop_, x_popj, x_ret, ret_v, ret_o, ret_k, x_ifs, x_brk, x_cnt, x_pas, sq_b, sq_c, sq_r, x_seq, forB_, x_fr, whlC_, x_whl, okK_some, okK_ite, okK_map, okK_bind, trK_t, trK_f, trK_map, K2_some, K3_some, frz, bindT, wipe, R.d_v, R.d_o, R.d_k, R.st_v, R.st_o, R.st_k, binD, cmpD, truth, isinD, ix_d, ix_l, ix_t, get_d, e_get, e_rev, e_scons, x_par3, aI0, aI1, b1_len_d, b1_int, b1_intb, b1_sorted_d, partD, slcD, b1_len_l, b1_len_t, b1_len_s, b1_abs, b1_all, b1_any, b1_sum, b1_tup_l, b1_tup_t, b1_lst_l, b1_lst_t, b1_max, b1_min, b1_sorted, b2D, iscD, items, begin_, List.map_cons, List.map_nil, List.replicate_succ, List.replicate_zero, List.nil_append, List.cons_append, List.getElem?_cons_zero, List.getElem?_cons_succ, List.set_cons_zero, List.set_cons_succ, Option.bind_some, Option.map_some, Nat.reduceSub, Nat.reduceAdd, Int.toNat_natCast, Bool.not_false, Bool.not_true, okK_none, eq_bl, bne_self_eq_false, beq_self_eq_true, Bool.false_bne]
        refine repr_s sht (by omega) (by omega) (eq_shw sht ?_)
        simp only [e_var, v_v, v_o, e_non, e_bl, e_int, e_str, e_nil, e_dnil, e_cons, con_, e_tup, ls_, e_lst, e_bin, e_neg, int_, e_nt, e_and, e_or, e_ife, e_cmp, e_isc, e_call, e_pick, pick_, e_b1, e_b2, e_isin, e_ix, e_slc, e_rng1, e_rng2, e_enm, e_zp, zp_l, zp_t, e_comp, turn_, oc_s, oc_n, cmp_nil, x_asg, x_par, x_sto, sto_, x_app, app_, x_ext, ext_, x_ex, x_pop, pop_, x_popj, x_ret, ret_v, ret_o, ret_k, x_ifs, x_brk, x_cnt, x_pas, sq_b, sq_c, sq_r, x_seq, forB_, x_fr, whlC_, x_whl, okK_some, okK_ite, okK_map, okK_bind, trK_t, trK_f, trK_map, K2_some, K3_some, frz, bindT, wipe, R.d_v, R.d_o, R.d_k, R.st_v, R.st_o, R.st_k, binD, cmpD, truth, isinD, ix_d, ix_l, ix_t, get_d, e_get, e_rev, e_scons, x_par3, aI0, aI1, b1_len_d, b1_int, b1_intb, b1_sorted_d, partD, slcD, b1_len_l, b1_len_t, b1_len_s, b1_abs, b1_all, b1_any, b1_sum, b1_tup_l, b1_tup_t, b1_lst_l, b1_lst_t, b1_max, b1_min, b1_sorted, b2D, iscD, items, begin_, List.map_cons, List.map_nil, List.replicate_succ, List.replicate_zero, List.nil_append, List.cons_append, List.getElem?_cons_zero, List.getElem?_cons_succ, List.set_cons_zero, List.set_cons_succ, Option.bind_some, Option.map_some, Nat.reduceSub, Nat.reduceAdd, Int.toNat_natCast, Bool.not_false, Bool.not_true, okK_none]
        rw [sq_n, x_ifs]
        simp only [e_isc, e_var, frz, v_v, R.d_v, List.getElem?_cons_succ, List.getElem?_cons_zero, iscD, okK_some, truth, Bool.false_bne, trK_t]
        refine s_pT n hW (hly.trans rfl) hw hP (by omega) (by omega) (by omega) hin cd hd dl (by rw [hly] at db; exact db) fun y10 y11 y12 y13 u5 => ?_
        exact q _ _ _ _ _ _ _ _ _ _ _
      · obtain ⟨e, he, h⟩ := hn
        exact absurd (hin e he) h
end PyI

set_option Elab.async false
set_option linter.all false
set_option maxRecDepth 100000
set_option maxHeartbeats 8000000
namespace PyI
open PySem PySem.Spec PyProof.Rows Rw
variable {τ : Type} {O : Pk τ} {W : Nat}
theorem half_no : ¬ ∀ e, e < 1 → inte [[Rat.divInt 1 2]] e := fun h => by
  have h1 : (sc [[Rat.divInt 1 2]] 0).all (fun c => decide (c.den = 1)) = false := by decide +kernel
  rw [List.all_eq_false] at h1
  obtain ⟨c, hc, hn⟩ := h1
  exact hn (decide_eq_true (h 0 (by omega) c hc))
theorem s_law (n : Nat) (hO : PkOk O) (hW : 2 ^ 8001 ≤ W) (u : τ) : exK O (run O W prog (n + 5)) W bL (none :: some (.v .src) :: List.replicate (nL.length - 2) none) u fun o _ _ => o = .rt (.v (.bl true)) := by
  have h1000 : 1000 < W := Nat.lt_of_lt_of_le (by decide +kernel) hW
  have e : (none :: some (.v .src) :: List.replicate (nL.length - 2) none : Rho) = [none, some (.v .src), none, none, none, none, none, none, none, none, none, none, none, none] := rfl
  rw [e]
  show exK O (run O W prog (n + 5)) W (.seq (.fr [] (.var 2) (.rng1 (.int 2)) (pA pB)) pR) _ u _
  rw [x_seq]
  simp only [x_fr, e_rng1, e_int, frz, R.d_v, int_, R.st_v, items, Option.bind_some, okK_some]
  refine ⟨by decide, ?_⟩
  rw [show Int.toNat 2 = 2 from rfl]
  refine for_rng (fun i ρ u' => ∃ y2 y3 y4 y5 y6 y7 y8 y9 y10 y11 y12 y13 : Option R, ρ = [none, some (.v .src), y2, y3, y4, y5, y6, y7, y8, y9, y10, y11, y12, y13]) ⟨_, _, _, _, _, _, _, _, _, _, _, _, rfl⟩ ?_ ?_
  · rintro i ρ u' hi ⟨y2, y3, y4, y5, y6, y7, y8, y9, y10, y11, y12, y13, rfl⟩
    simp only [forB_, bindT, okK_some, List.set_cons_succ, List.set_cons_zero]
    refine s_pA n hO hW fun y3 y5 y6 y7 u1 => ?_
    refine s_pB n hO hW fun y3 y4 y6 y7 y8 y9 y10 y11 y12 y13 u2 => ?_
    exact ⟨_, _, _, _, _, _, _, _, _, _, _, _, rfl⟩
  · rintro ρ u' ⟨y2, y3, y4, y5, y6, y7, y8, y9, y10, y11, y12, y13, rfl⟩
    rw [sq_n]
    unfold pR
    simp only [e_var, v_v, v_o, e_non, e_bl, e_int, e_str, e_nil, e_dnil, e_cons, con_, e_tup, ls_, e_lst, e_bin, e_neg, int_, e_nt, e_and, e_or, e_ife, e_cmp, e_isc, e_call, e_pick, pick_, e_b1, e_b2, e_isin, e_ix, e_slc, e_rng1, e_rng2, e_enm, e_zp, zp_l, zp_t, e_comp, turn_, oc_s, oc_n, cmp_nil, x_asg, x_par, x_sto, sto_, x_app, app_, x_ext, ext_, x_ex, x_pop, pop_, x_popj, x_ret, ret_v, ret_o, ret_k, x_ifs, x_brk, x_cnt, x_pas, sq_b, sq_c, sq_r, x_seq, forB_, x_fr, whlC_, x_whl, okK_some, okK_ite, okK_map, okK_bind, trK_t, trK_f, trK_map, K2_some, K3_some, frz, bindT, wipe, R.d_v, R.d_o, R.d_k, R.st_v, R.st_o, R.st_k, binD, cmpD, truth, isinD, ix_d, ix_l, ix_t, get_d, e_get, e_rev, e_scons, x_par3, aI0, aI1, b1_len_d, b1_int, b1_intb, b1_sorted_d, partD, slcD, b1_len_l, b1_len_t, b1_len_s, b1_abs, b1_all, b1_any, b1_sum, b1_tup_l, b1_tup_t, b1_lst_l, b1_lst_t, b1_max, b1_min, b1_sorted, b2D, iscD, items, begin_, List.map_cons, List.map_nil, List.replicate_succ, List.replicate_zero, List.nil_append, List.cons_append, List.getElem?_cons_zero, List.getElem?_cons_succ, List.set_cons_zero, List.set_cons_succ, Option.bind_some, Option.map_some, Nat.reduceSub, Nat.reduceAdd, Int.toNat_natCast, Bool.not_false, Bool.not_true, okK_none]
    refine ⟨(by simp only [List.length_cons, List.length_nil, List.length_append, List.length_map, sizeLine_eq]; omega), (by simp only [List.length_cons, List.length_nil, List.length_append, List.length_map, sizeLine_eq]; omega), (by simp only [List.length_cons, List.length_nil, List.length_append, List.length_map, sizeLine_eq]; omega), ?_⟩
    rw [show D.tup [D.tup [D.tup [D.int 1, D.int 2]]] = .tup (([[Rat.divInt 1 2]] : List (List Rat)).map tQ) from rfl]
    refine s_through n (w := 1) (k := 6) (fun l hl x hx => ?_) (fun l hl => ?_) (fun h => by simp at h) (by omega) (by simp) (by omega) (by omega) h1000 (fun _ => ?_) fun hin => absurd hin half_no
    · rw [List.mem_singleton] at hl; subst hl
      rw [List.mem_singleton] at hx; subst hx
      exact PQ_half.1
    · rw [List.mem_singleton] at hl; subst hl; rfl
    · simp only [e_var, v_v, v_o, e_non, e_bl, e_int, e_str, e_nil, e_dnil, e_cons, con_, e_tup, ls_, e_lst, e_bin, e_neg, int_, e_nt, e_and, e_or, e_ife, e_cmp, e_isc, e_call, e_pick, pick_, e_b1, e_b2, e_isin, e_ix, e_slc, e_rng1, e_rng2, e_enm, e_zp, zp_l, zp_t, e_comp, turn_, oc_s, oc_n, cmp_nil, x_asg, x_par, x_sto, sto_, x_app, app_, x_ext, ext_, x_ex, x_pop, pop_, x_popj, x_ret, ret_v, ret_o, ret_k, x_ifs, x_brk, x_cnt, x_pas, sq_b, sq_c, sq_r, x_seq, forB_, x_fr, whlC_, x_whl, okK_some, okK_ite, okK_map, okK_bind, trK_t, trK_f, trK_map, K2_some, K3_some, frz, bindT, wipe, R.d_v, R.d_o, R.d_k, R.st_v, R.st_o, R.st_k, binD, cmpD, truth, isinD, ix_d, ix_l, ix_t, get_d, e_get, e_rev, e_scons, x_par3, aI0, aI1, b1_len_d, b1_int, b1_intb, b1_sorted_d, partD, slcD, b1_len_l, b1_len_t, b1_len_s, b1_abs, b1_all, b1_any, b1_sum, b1_tup_l, b1_tup_t, b1_lst_l, b1_lst_t, b1_max, b1_min, b1_sorted, b2D, iscD, items, begin_, List.map_cons, List.map_nil, List.replicate_succ, List.replicate_zero, List.nil_append, List.cons_append, List.getElem?_cons_zero, List.getElem?_cons_succ, List.set_cons_zero, List.set_cons_succ, Option.bind_some, Option.map_some, Nat.reduceSub, Nat.reduceAdd, Int.toNat_natCast, Bool.not_false, Bool.not_true, okK_none]
      refine .inl ⟨rfl, (by simp only [List.length_cons, List.length_nil, List.length_append, List.length_map, sizeLine_eq]; omega), (by simp only [List.length_cons, List.length_nil, List.length_append, List.length_map, sizeLine_eq]; omega), (by simp only [List.length_cons, List.length_nil, List.length_append, List.length_map, sizeLine_eq]; omega), ?_⟩
      rw [show D.tup [D.tup [D.tup [D.int 0, D.int 1]]] = .tup (([[((0 : Int) : Rat)]] : List (List Rat)).map tQ) from rfl]
      have sc0 : sc [[((0 : Int) : Rat)]] 0 = [0] := by decide +kernel
      refine s_through n (w := 1) (k := 6) (fun l hl x hx => ?_) (fun l hl => ?_) (fun h => by simp at h) (by omega) (by simp) (by omega) (by omega) h1000 (fun ⟨e, he, hn⟩ => ?_) fun _ d cd hd _ _ => ?_
      · rw [List.mem_singleton] at hl; subst hl
        rw [List.mem_singleton] at hx; subst hx
        exact bt_int (by decide)
      · rw [List.mem_singleton] at hl; subst hl; rfl
      · refine absurd (fun c hc => ?_) hn
        have : e = 0 := by omega
        subst this
        rw [sc0, List.mem_singleton] at hc
        rw [hc]; rfl
      · have ed : d = [] := can_uniq cd ⟨List.Pairwise.nil, fun _ h => nomatch h⟩ fun e N => by
          rw [hd]
          unfold dnP
          rw [cf_range]
          by_cases h : e < 1
          · have : e = 0 := by omega
            subst this
            rw [if_pos h, rowOf, sc0]
            rfl
          · rw [if_neg h]; rfl
        subst ed
        have e1 : eqD (dD []) (.tup []) = some true := by
          have h := eq_dD [] []
          rw [show decide (([] : Dn) = []) = true by decide] at h
          exact h
        simp only [e_var, v_v, v_o, e_non, e_bl, e_int, e_str, e_nil, e_dnil, e_cons, con_, e_tup, ls_, e_lst, e_bin, e_neg, int_, e_nt, e_and, e_or, e_ife, e_cmp, e_isc, e_call, e_pick, pick_, e_b1, e_b2, e_isin, e_ix, e_slc, e_rng1, e_rng2, e_enm, e_zp, zp_l, zp_t, e_comp, turn_, oc_s, oc_n, cmp_nil, x_asg, x_par, x_sto, sto_, x_app, app_, x_ext, ext_, x_ex, x_pop, pop_, x_popj, x_ret, ret_v, ret_o, ret_k, x_ifs, x_brk, x_cnt, x_pas, sq_b, sq_c, sq_r, x_seq, forB_, x_fr, whlC_, x_whl, okK_some, okK_ite, okK_map, okK_bind, trK_t, trK_f, trK_map, K2_some, K3_some, frz, bindT, wipe, R.d_v, R.d_o, R.d_k, R.st_v, R.st_o, R.st_k, binD, cmpD, truth, isinD, ix_d, ix_l, ix_t, get_d, e_get, e_rev, e_scons, x_par3, aI0, aI1, b1_len_d, b1_int, b1_intb, b1_sorted_d, partD, slcD, b1_len_l, b1_len_t, b1_len_s, b1_abs, b1_all, b1_any, b1_sum, b1_tup_l, b1_tup_t, b1_lst_l, b1_lst_t, b1_max, b1_min, b1_sorted, b2D, iscD, items, begin_, List.map_cons, List.map_nil, List.replicate_succ, List.replicate_zero, List.nil_append, List.cons_append, List.getElem?_cons_zero, List.getElem?_cons_succ, List.set_cons_zero, List.set_cons_succ, Option.bind_some, Option.map_some, Nat.reduceSub, Nat.reduceAdd, Int.toNat_natCast, Bool.not_false, Bool.not_true, okK_none, e1, List.length_nil]
        refine ⟨Nat.zero_le _, Nat.zero_le _, ?_⟩
        refine s_through n (ls := ([] : List (List Rat))) (w := 0) (k := 6) (by intro l hl; simp at hl) (by intro l hl; simp at hl) (fun _ => rfl) (by omega) (by simp) (by omega) (by omega) h1000 (fun ⟨e, he, hn⟩ => absurd he (by omega)) fun _ d cd hd _ _ => ?_
        have ed : d = [] := can_uniq cd ⟨List.Pairwise.nil, fun _ h => nomatch h⟩ fun e N => by
          rw [hd]; rfl
        subst ed
        simp only [e_var, v_v, v_o, e_non, e_bl, e_int, e_str, e_nil, e_dnil, e_cons, con_, e_tup, ls_, e_lst, e_bin, e_neg, int_, e_nt, e_and, e_or, e_ife, e_cmp, e_isc, e_call, e_pick, pick_, e_b1, e_b2, e_isin, e_ix, e_slc, e_rng1, e_rng2, e_enm, e_zp, zp_l, zp_t, e_comp, turn_, oc_s, oc_n, cmp_nil, x_asg, x_par, x_sto, sto_, x_app, app_, x_ext, ext_, x_ex, x_pop, pop_, x_popj, x_ret, ret_v, ret_o, ret_k, x_ifs, x_brk, x_cnt, x_pas, sq_b, sq_c, sq_r, x_seq, forB_, x_fr, whlC_, x_whl, okK_some, okK_ite, okK_map, okK_bind, trK_t, trK_f, trK_map, K2_some, K3_some, frz, bindT, wipe, R.d_v, R.d_o, R.d_k, R.st_v, R.st_o, R.st_k, binD, cmpD, truth, isinD, ix_d, ix_l, ix_t, get_d, e_get, e_rev, e_scons, x_par3, aI0, aI1, b1_len_d, b1_int, b1_intb, b1_sorted_d, partD, slcD, b1_len_l, b1_len_t, b1_len_s, b1_abs, b1_all, b1_any, b1_sum, b1_tup_l, b1_tup_t, b1_lst_l, b1_lst_t, b1_max, b1_min, b1_sorted, b2D, iscD, items, begin_, List.map_cons, List.map_nil, List.replicate_succ, List.replicate_zero, List.nil_append, List.cons_append, List.getElem?_cons_zero, List.getElem?_cons_succ, List.set_cons_zero, List.set_cons_succ, Option.bind_some, Option.map_some, Nat.reduceSub, Nat.reduceAdd, Int.toNat_natCast, Bool.not_false, Bool.not_true, okK_none, e1, List.length_nil]
        exact ⟨Nat.zero_le _, trivial⟩
end PyI

set_option Elab.async false
set_option linter.all false
set_option maxRecDepth 100000
set_option maxHeartbeats 4000000
namespace PyI
open PySem PySem.Spec PyProof.Rows L2
def WW : Nat := 2 ^ 8001
theorem law_true (t : Src2) : ∃ ρ' t', exec pick2 (run pick2 WW prog 5) WW bL (none :: some (.v .src) :: List.replicate (nL.length - 2) none) t = some (.rt (.v (.bl true)), ρ', t') := by
  obtain ⟨o, ρ', t', e, rfl⟩ := s_law (W := WW) 0 (fun t m h => pick2_in h) (Nat.le_refl _) t
  exact ⟨ρ', t', e⟩
theorem all_mk {P : Program} {w : World} {K : PySem.W.Frag} {h : Heap} {mg : Str → Option Value} {fa : Addr} (X : K.In h) (G : h.Ns mainGlobals mg) (hfa : mg "law" = some (.ref fa))
    {odi ani : Option Addr} {sli : Array (Option Value)} {fai : Addr} {oci kVi dci pmi cdi cti : Value} (ai : PySem.W.nsIn K mainGlobals "_law_open_cells" = some (some (.ref fai))) (li : K.lookup fai = some ⟨oci, odi, .func (PySem.W.fnOf "_law_open_cells" "_law_open_cells" (defArgs (topS 22)) (defBody (topS 22)) (defScope (topS 22)) .none kVi dci pmi ani cdi cti), sli⟩) (ci : PySem.W.codeIn K cdi "_law_open_cells" = true) (ki : PySem.W.keepIn K (.ref fai) = true)
    {odp anp : Option Addr} {slp : Array (Option Value)} {fap : Addr} {ocp kVp dcp pmp cdp ctp : Value} (ap : PySem.W.nsIn K mainGlobals "_law_pick" = some (some (.ref fap))) (lp : K.lookup fap = some ⟨ocp, odp, .func (PySem.W.fnOf "_law_pick" "_law_pick" (defArgs (topS 23)) (defBody (topS 23)) (defScope (topS 23)) .none kVp dcp pmp anp cdp ctp), slp⟩) (cp : PySem.W.codeIn K cdp "_law_pick" = true) (kp : PySem.W.keepIn K (.ref fap) = true)
    {od0 an0 : Option Addr} {sl0 : Array (Option Value)} {fa0 : Addr} {oc0 kV0 dc0 pm0 cd0 ct0 : Value} (a0 : PySem.W.nsIn K mainGlobals "is_integer" = some (some (.ref fa0))) (l0 : K.lookup fa0 = some ⟨oc0, od0, .func (PySem.W.fnOf "is_integer" "is_integer" (defArgs (topS 2)) (defBody (topS 2)) (defScope (topS 2)) .none kV0 dc0 pm0 an0 cd0 ct0), sl0⟩) (c0 : PySem.W.codeIn K cd0 "is_integer" = true) (k0 : PySem.W.keepIn K (.ref fa0) = true)
    {od1 an1 : Option Addr} {sl1 : Array (Option Value)} {fa1 : Addr} {oc1 kV1 dc1 pm1 cd1 ct1 : Value} (a1 : PySem.W.nsIn K mainGlobals "fraction_of" = some (some (.ref fa1))) (l1 : K.lookup fa1 = some ⟨oc1, od1, .func (PySem.W.fnOf "fraction_of" "fraction_of" (defArgs (topS 3)) (defBody (topS 3)) (defScope (topS 3)) .none kV1 dc1 pm1 an1 cd1 ct1), sl1⟩) (c1 : PySem.W.codeIn K cd1 "fraction_of" = true) (k1 : PySem.W.keepIn K (.ref fa1) = true)
    {od2 an2 : Option Addr} {sl2 : Array (Option Value)} {fa2 : Addr} {oc2 kV2 dc2 pm2 cd2 ct2 : Value} (a2 : PySem.W.nsIn K mainGlobals "fraction_sum" = some (some (.ref fa2))) (l2 : K.lookup fa2 = some ⟨oc2, od2, .func (PySem.W.fnOf "fraction_sum" "fraction_sum" (defArgs (topS 4)) (defBody (topS 4)) (defScope (topS 4)) .none kV2 dc2 pm2 an2 cd2 ct2), sl2⟩) (c2 : PySem.W.codeIn K cd2 "fraction_sum" = true) (k2 : PySem.W.keepIn K (.ref fa2) = true)
    {od3 an3 : Option Addr} {sl3 : Array (Option Value)} {fa3 : Addr} {oc3 kV3 dc3 pm3 cd3 ct3 : Value} (a3 : PySem.W.nsIn K mainGlobals "fraction_less" = some (some (.ref fa3))) (l3 : K.lookup fa3 = some ⟨oc3, od3, .func (PySem.W.fnOf "fraction_less" "fraction_less" (defArgs (topS 5)) (defBody (topS 5)) (defScope (topS 5)) .none kV3 dc3 pm3 an3 cd3 ct3), sl3⟩) (c3 : PySem.W.codeIn K cd3 "fraction_less" = true) (k3 : PySem.W.keepIn K (.ref fa3) = true)
    {od4 an4 : Option Addr} {sl4 : Array (Option Value)} {fa4 : Addr} {oc4 kV4 dc4 pm4 cd4 ct4 : Value} (a4 : PySem.W.nsIn K mainGlobals "fraction_times" = some (some (.ref fa4))) (l4 : K.lookup fa4 = some ⟨oc4, od4, .func (PySem.W.fnOf "fraction_times" "fraction_times" (defArgs (topS 6)) (defBody (topS 6)) (defScope (topS 6)) .none kV4 dc4 pm4 an4 cd4 ct4), sl4⟩) (c4 : PySem.W.codeIn K cd4 "fraction_times" = true) (k4 : PySem.W.keepIn K (.ref fa4) = true)
    {od5 an5 : Option Addr} {sl5 : Array (Option Value)} {fa5 : Addr} {oc5 kV5 dc5 pm5 cd5 ct5 : Value} (a5 : PySem.W.nsIn K mainGlobals "choose" = some (some (.ref fa5))) (l5 : K.lookup fa5 = some ⟨oc5, od5, .func (PySem.W.fnOf "choose" "choose" (defArgs (topS 8)) (defBody (topS 8)) (defScope (topS 8)) .none kV5 dc5 pm5 an5 cd5 ct5), sl5⟩) (c5 : PySem.W.codeIn K cd5 "choose" = true) (k5 : PySem.W.keepIn K (.ref fa5) = true)
    {od6 an6 : Option Addr} {sl6 : Array (Option Value)} {fa6 : Addr} {oc6 kV6 dc6 pm6 cd6 ct6 : Value} (a6 : PySem.W.nsIn K mainGlobals "is_row" = some (some (.ref fa6))) (l6 : K.lookup fa6 = some ⟨oc6, od6, .func (PySem.W.fnOf "is_row" "is_row" (defArgs (topS 9)) (defBody (topS 9)) (defScope (topS 9)) .none kV6 dc6 pm6 an6 cd6 ct6), sl6⟩) (c6 : PySem.W.codeIn K cd6 "is_row" = true) (k6 : PySem.W.keepIn K (.ref fa6) = true)
    {od7 an7 : Option Addr} {sl7 : Array (Option Value)} {fa7 : Addr} {oc7 kV7 dc7 pm7 cd7 ct7 : Value} (a7 : PySem.W.nsIn K mainGlobals "row_of" = some (some (.ref fa7))) (l7 : K.lookup fa7 = some ⟨oc7, od7, .func (PySem.W.fnOf "row_of" "row_of" (defArgs (topS 10)) (defBody (topS 10)) (defScope (topS 10)) .none kV7 dc7 pm7 an7 cd7 ct7), sl7⟩) (c7 : PySem.W.codeIn K cd7 "row_of" = true) (k7 : PySem.W.keepIn K (.ref fa7) = true)
    {od8 an8 : Option Addr} {sl8 : Array (Option Value)} {fa8 : Addr} {oc8 kV8 dc8 pm8 cd8 ct8 : Value} (a8 : PySem.W.nsIn K mainGlobals "both_of" = some (some (.ref fa8))) (l8 : K.lookup fa8 = some ⟨oc8, od8, .func (PySem.W.fnOf "both_of" "both_of" (defArgs (topS 11)) (defBody (topS 11)) (defScope (topS 11)) .none kV8 dc8 pm8 an8 cd8 ct8), sl8⟩) (c8 : PySem.W.codeIn K cd8 "both_of" = true) (k8 : PySem.W.keepIn K (.ref fa8) = true)
    {od9 an9 : Option Addr} {sl9 : Array (Option Value)} {fa9 : Addr} {oc9 kV9 dc9 pm9 cd9 ct9 : Value} (a9 : PySem.W.nsIn K mainGlobals "row_sum" = some (some (.ref fa9))) (l9 : K.lookup fa9 = some ⟨oc9, od9, .func (PySem.W.fnOf "row_sum" "row_sum" (defArgs (topS 12)) (defBody (topS 12)) (defScope (topS 12)) .none kV9 dc9 pm9 an9 cd9 ct9), sl9⟩) (c9 : PySem.W.codeIn K cd9 "row_sum" = true) (k9 : PySem.W.keepIn K (.ref fa9) = true)
    {od10 an10 : Option Addr} {sl10 : Array (Option Value)} {fa10 : Addr} {oc10 kV10 dc10 pm10 cd10 ct10 : Value} (a10 : PySem.W.nsIn K mainGlobals "row_at" = some (some (.ref fa10))) (l10 : K.lookup fa10 = some ⟨oc10, od10, .func (PySem.W.fnOf "row_at" "row_at" (defArgs (topS 13)) (defBody (topS 13)) (defScope (topS 13)) .none kV10 dc10 pm10 an10 cd10 ct10), sl10⟩) (c10 : PySem.W.codeIn K cd10 "row_at" = true) (k10 : PySem.W.keepIn K (.ref fa10) = true)
    {od11 an11 : Option Addr} {sl11 : Array (Option Value)} {fa11 : Addr} {oc11 kV11 dc11 pm11 cd11 ct11 : Value} (a11 : PySem.W.nsIn K mainGlobals "drawn_of" = some (some (.ref fa11))) (l11 : K.lookup fa11 = some ⟨oc11, od11, .func (PySem.W.fnOf "drawn_of" "drawn_of" (defArgs (topS 15)) (defBody (topS 15)) (defScope (topS 15)) .none kV11 dc11 pm11 an11 cd11 ct11), sl11⟩) (c11 : PySem.W.codeIn K cd11 "drawn_of" = true) (k11 : PySem.W.keepIn K (.ref fa11) = true)
    {od12 an12 : Option Addr} {sl12 : Array (Option Value)} {fa12 : Addr} {oc12 kV12 dc12 pm12 cd12 ct12 : Value} (a12 : PySem.W.nsIn K mainGlobals "is_drawn" = some (some (.ref fa12))) (l12 : K.lookup fa12 = some ⟨oc12, od12, .func (PySem.W.fnOf "is_drawn" "is_drawn" (defArgs (topS 16)) (defBody (topS 16)) (defScope (topS 16)) .none kV12 dc12 pm12 an12 cd12 ct12), sl12⟩) (c12 : PySem.W.codeIn K cd12 "is_drawn" = true) (k12 : PySem.W.keepIn K (.ref fa12) = true)
    {od13 an13 : Option Addr} {sl13 : Array (Option Value)} {fa13 : Addr} {oc13 kV13 dc13 pm13 cd13 ct13 : Value} (a13 : PySem.W.nsIn K mainGlobals "drawn_at" = some (some (.ref fa13))) (l13 : K.lookup fa13 = some ⟨oc13, od13, .func (PySem.W.fnOf "drawn_at" "drawn_at" (defArgs (topS 17)) (defBody (topS 17)) (defScope (topS 17)) .none kV13 dc13 pm13 an13 cd13 ct13), sl13⟩) (c13 : PySem.W.codeIn K cd13 "drawn_at" = true) (k13 : PySem.W.keepIn K (.ref fa13) = true)
    {od14 an14 : Option Addr} {sl14 : Array (Option Value)} {fa14 : Addr} {oc14 kV14 dc14 pm14 cd14 ct14 : Value} (a14 : PySem.W.nsIn K mainGlobals "steps_of" = some (some (.ref fa14))) (l14 : K.lookup fa14 = some ⟨oc14, od14, .func (PySem.W.fnOf "steps_of" "steps_of" (defArgs (topS 18)) (defBody (topS 18)) (defScope (topS 18)) .none kV14 dc14 pm14 an14 cd14 ct14), sl14⟩) (c14 : PySem.W.codeIn K cd14 "steps_of" = true) (k14 : PySem.W.keepIn K (.ref fa14) = true)
    {od15 an15 : Option Addr} {sl15 : Array (Option Value)} {fa15 : Addr} {oc15 kV15 dc15 pm15 cd15 ct15 : Value} (a15 : PySem.W.nsIn K mainGlobals "powers_through" = some (some (.ref fa15))) (l15 : K.lookup fa15 = some ⟨oc15, od15, .func (PySem.W.fnOf "powers_through" "powers_through" (defArgs (topS 19)) (defBody (topS 19)) (defScope (topS 19)) .none kV15 dc15 pm15 an15 cd15 ct15), sl15⟩) (c15 : PySem.W.codeIn K cd15 "powers_through" = true) (k15 : PySem.W.keepIn K (.ref fa15) = true)
    {od16 an16 : Option Addr} {sl16 : Array (Option Value)} {fa16 : Addr} {oc16 kV16 dc16 pm16 cd16 ct16 : Value} (a16 : PySem.W.nsIn K mainGlobals "drawn_through" = some (some (.ref fa16))) (l16 : K.lookup fa16 = some ⟨oc16, od16, .func (PySem.W.fnOf "drawn_through" "drawn_through" (defArgs (topS 20)) (defBody (topS 20)) (defScope (topS 20)) .none kV16 dc16 pm16 an16 cd16 ct16), sl16⟩) (c16 : PySem.W.codeIn K cd16 "drawn_through" = true) (k16 : PySem.W.keepIn K (.ref fa16) = true)
    {od17 an17 : Option Addr} {sl17 : Array (Option Value)} {fa17 : Addr} {oc17 kV17 dc17 pm17 cd17 ct17 : Value} (a17 : PySem.W.nsIn K mainGlobals "_law_of" = some (some (.ref fa17))) (l17 : K.lookup fa17 = some ⟨oc17, od17, .func (PySem.W.fnOf "_law_of" "_law_of" (defArgs (topS 24)) (defBody (topS 24)) (defScope (topS 24)) .none kV17 dc17 pm17 an17 cd17 ct17), sl17⟩) (c17 : PySem.W.codeIn K cd17 "_law_of" = true) (k17 : PySem.W.keepIn K (.ref fa17) = true)
    {od18 an18 : Option Addr} {sl18 : Array (Option Value)} {fa18 : Addr} {oc18 kV18 dc18 pm18 cd18 ct18 : Value} (a18 : PySem.W.nsIn K mainGlobals "_law_fraction" = some (some (.ref fa18))) (l18 : K.lookup fa18 = some ⟨oc18, od18, .func (PySem.W.fnOf "_law_fraction" "_law_fraction" (defArgs (topS 25)) (defBody (topS 25)) (defScope (topS 25)) .none kV18 dc18 pm18 an18 cd18 ct18), sl18⟩) (c18 : PySem.W.codeIn K cd18 "_law_fraction" = true) (k18 : PySem.W.keepIn K (.ref fa18) = true)
    {od19 an19 : Option Addr} {sl19 : Array (Option Value)} {fa19 : Addr} {oc19 kV19 dc19 pm19 cd19 ct19 : Value} (a19 : PySem.W.nsIn K mainGlobals "_law_over" = some (some (.ref fa19))) (l19 : K.lookup fa19 = some ⟨oc19, od19, .func (PySem.W.fnOf "_law_over" "_law_over" (defArgs (topS 26)) (defBody (topS 26)) (defScope (topS 26)) .none kV19 dc19 pm19 an19 cd19 ct19), sl19⟩) (c19 : PySem.W.codeIn K cd19 "_law_over" = true) (k19 : PySem.W.keepIn K (.ref fa19) = true)
    {od20 an20 : Option Addr} {sl20 : Array (Option Value)} {fa20 : Addr} {oc20 kV20 dc20 pm20 cd20 ct20 : Value} (a20 : PySem.W.nsIn K mainGlobals "_law_at" = some (some (.ref fa20))) (l20 : K.lookup fa20 = some ⟨oc20, od20, .func (PySem.W.fnOf "_law_at" "_law_at" (defArgs (topS 27)) (defBody (topS 27)) (defScope (topS 27)) .none kV20 dc20 pm20 an20 cd20 ct20), sl20⟩) (c20 : PySem.W.codeIn K cd20 "_law_at" = true) (k20 : PySem.W.keepIn K (.ref fa20) = true)
    {od21 an21 : Option Addr} {sl21 : Array (Option Value)} {fa21 : Addr} {oc21 kV21 dc21 pm21 cd21 ct21 : Value} (a21 : PySem.W.nsIn K mainGlobals "_law_row" = some (some (.ref fa21))) (l21 : K.lookup fa21 = some ⟨oc21, od21, .func (PySem.W.fnOf "_law_row" "_law_row" (defArgs (topS 28)) (defBody (topS 28)) (defScope (topS 28)) .none kV21 dc21 pm21 an21 cd21 ct21), sl21⟩) (c21 : PySem.W.codeIn K cd21 "_law_row" = true) (k21 : PySem.W.keepIn K (.ref fa21) = true)
    {od22 an22 : Option Addr} {sl22 : Array (Option Value)} {fa22 : Addr} {oc22 kV22 dc22 pm22 cd22 ct22 : Value} (a22 : PySem.W.nsIn K mainGlobals "_law_drawn" = some (some (.ref fa22))) (l22 : K.lookup fa22 = some ⟨oc22, od22, .func (PySem.W.fnOf "_law_drawn" "_law_drawn" (defArgs (topS 29)) (defBody (topS 29)) (defScope (topS 29)) .none kV22 dc22 pm22 an22 cd22 ct22), sl22⟩) (c22 : PySem.W.codeIn K cd22 "_law_drawn" = true) (k22 : PySem.W.keepIn K (.ref fa22) = true)
    {od23 an23 : Option Addr} {sl23 : Array (Option Value)} {fa23 : Addr} {oc23 kV23 dc23 pm23 cd23 ct23 : Value} (a23 : PySem.W.nsIn K mainGlobals "_law_drawn_at" = some (some (.ref fa23))) (l23 : K.lookup fa23 = some ⟨oc23, od23, .func (PySem.W.fnOf "_law_drawn_at" "_law_drawn_at" (defArgs (topS 30)) (defBody (topS 30)) (defScope (topS 30)) .none kV23 dc23 pm23 an23 cd23 ct23), sl23⟩) (c23 : PySem.W.codeIn K cd23 "_law_drawn_at" = true) (k23 : PySem.W.keepIn K (.ref fa23) = true)
    {od24 an24 : Option Addr} {sl24 : Array (Option Value)} {fa24 : Addr} {oc24 kV24 dc24 pm24 cd24 ct24 : Value} (a24 : PySem.W.nsIn K mainGlobals "_law_solved" = some (some (.ref fa24))) (l24 : K.lookup fa24 = some ⟨oc24, od24, .func (PySem.W.fnOf "_law_solved" "_law_solved" (defArgs (topS 31)) (defBody (topS 31)) (defScope (topS 31)) .none kV24 dc24 pm24 an24 cd24 ct24), sl24⟩) (c24 : PySem.W.codeIn K cd24 "_law_solved" = true) (k24 : PySem.W.keepIn K (.ref fa24) = true)
    {od25 an25 : Option Addr} {sl25 : Array (Option Value)} {fa25 : Addr} {oc25 kV25 dc25 pm25 cd25 ct25 : Value} (a25 : PySem.W.nsIn K mainGlobals "_law_is_whole" = some (some (.ref fa25))) (l25 : K.lookup fa25 = some ⟨oc25, od25, .func (PySem.W.fnOf "_law_is_whole" "_law_is_whole" (defArgs (topS 32)) (defBody (topS 32)) (defScope (topS 32)) .none kV25 dc25 pm25 an25 cd25 ct25), sl25⟩) (c25 : PySem.W.codeIn K cd25 "_law_is_whole" = true) (k25 : PySem.W.keepIn K (.ref fa25) = true)
    {odL anL : Option Addr} {slL : Array (Option Value)} {faL : Addr} {ocL kVL dcL pmL cdL ctL : Value} (aL : PySem.W.nsIn K mainGlobals "law" = some (some (.ref faL))) (lL : K.lookup faL = some ⟨ocL, odL, .func (PySem.W.fnOf "law" "law" (defArgs (topS 33)) (defBody (topS 33)) (defScope (topS 33)) .none kVL dcL pmL anL cdL ctL), slL⟩) (cL : PySem.W.codeIn K cdL "law" = true) (kL : PySem.W.keepIn K (.ref faL) = true)
    (z_len : PySem.W.nsIn K mainGlobals "len" = some none)
    (z_abs : PySem.W.nsIn K mainGlobals "abs" = some none)
    (z_all : PySem.W.nsIn K mainGlobals "all" = some none)
    (z_any : PySem.W.nsIn K mainGlobals "any" = some none)
    (z_sum : PySem.W.nsIn K mainGlobals "sum" = some none)
    (z_tuple : PySem.W.nsIn K mainGlobals "tuple" = some none)
    (z_list : PySem.W.nsIn K mainGlobals "list" = some none)
    (z_repr : PySem.W.nsIn K mainGlobals "repr" = some none)
    (z_max : PySem.W.nsIn K mainGlobals "max" = some none)
    (z_min : PySem.W.nsIn K mainGlobals "min" = some none)
    (z_sorted : PySem.W.nsIn K mainGlobals "sorted" = some none)
    (z_isinstance : PySem.W.nsIn K mainGlobals "isinstance" = some none)
    (z_int : PySem.W.nsIn K mainGlobals "int" = some none)
    (z_bool : PySem.W.nsIn K mainGlobals "bool" = some none)
    (z_str : PySem.W.nsIn K mainGlobals "str" = some none)
    (z_dict : PySem.W.nsIn K mainGlobals "dict" = some none)
    (z_range : PySem.W.nsIn K mainGlobals "range" = some none)
    (z_enumerate : PySem.W.nsIn K mainGlobals "enumerate" = some none)
    (z_zip : PySem.W.nsIn K mainGlobals "zip" = some none)
    (z_gcd : PySem.W.nsIn K mainGlobals "gcd" = some (some (.builtin "math.gcd"))) :
    ∃ fd : FuncData, (∀ (s : Shared) (v : Value), BindsTo s fd ⟨[v], []⟩ [("script", v)]) ∧ ∀ base : Heap, K.In base → base.Ns mainGlobals mg → FnG P w K mg base 7 fa fd ["script"] (spLaw K) := by
  have e := hfa.symm.trans (PySem.W.mg_of X G aL)
  cases e
  have Fi := fun_mk (st := topS 22) li ci ki
  have Fp := fun_mk (st := topS 23) lp cp kp
  have F0 := fun_mk (st := topS 2) l0 c0 k0
  have F1 := fun_mk (st := topS 3) l1 c1 k1
  have F2 := fun_mk (st := topS 4) l2 c2 k2
  have F3 := fun_mk (st := topS 5) l3 c3 k3
  have F4 := fun_mk (st := topS 6) l4 c4 k4
  have F5 := fun_mk (st := topS 8) l5 c5 k5
  have F6 := fun_mk (st := topS 9) l6 c6 k6
  have F7 := fun_mk (st := topS 10) l7 c7 k7
  have F8 := fun_mk (st := topS 11) l8 c8 k8
  have F9 := fun_mk (st := topS 12) l9 c9 k9
  have F10 := fun_mk (st := topS 13) l10 c10 k10
  have F11 := fun_mk (st := topS 15) l11 c11 k11
  have F12 := fun_mk (st := topS 16) l12 c12 k12
  have F13 := fun_mk (st := topS 17) l13 c13 k13
  have F14 := fun_mk (st := topS 18) l14 c14 k14
  have F15 := fun_mk (st := topS 19) l15 c15 k15
  have F16 := fun_mk (st := topS 20) l16 c16 k16
  have F17 := fun_mk (st := topS 24) l17 c17 k17
  have F18 := fun_mk (st := topS 25) l18 c18 k18
  have F19 := fun_mk (st := topS 26) l19 c19 k19
  have F20 := fun_mk (st := topS 27) l20 c20 k20
  have F21 := fun_mk (st := topS 28) l21 c21 k21
  have F22 := fun_mk (st := topS 29) l22 c22 k22
  have F23 := fun_mk (st := topS 30) l23 c23 k23
  have F24 := fun_mk (st := topS 31) l24 c24 k24
  have F25 := fun_mk (st := topS 32) l25 c25 k25
  have FL := fun_mk (st := topS 33) lL cL kL
  have bi := Fi.binds (ps := ["script"]) fun _ _ _ _ _ _ us hl => match us, hl with | [_], _ => rfl
  have bp := Fp.binds (ps := ["source", "most"]) fun _ _ _ _ _ _ us hl => match us, hl with | [_, _], _ => rfl
  have b0 := F0.binds (ps := ["value"]) fun _ _ _ _ _ _ us hl => match us, hl with | [_], _ => rfl
  have b1 := F1.binds (ps := ["p", "q"]) fun _ _ _ _ _ _ us hl => match us, hl with | [_, _], _ => rfl
  have b2 := F2.binds (ps := ["a", "b"]) fun _ _ _ _ _ _ us hl => match us, hl with | [_, _], _ => rfl
  have b3 := F3.binds (ps := ["a", "b"]) fun _ _ _ _ _ _ us hl => match us, hl with | [_, _], _ => rfl
  have b4 := F4.binds (ps := ["a", "b"]) fun _ _ _ _ _ _ us hl => match us, hl with | [_, _], _ => rfl
  have b5 := F5.binds (ps := ["n", "k"]) fun _ _ _ _ _ _ us hl => match us, hl with | [_, _], _ => rfl
  have b6 := F6.binds (ps := ["value"]) fun _ _ _ _ _ _ us hl => match us, hl with | [_], _ => rfl
  have b7 := F7.binds (ps := ["some"]) fun _ _ _ _ _ _ us hl => match us, hl with | [_], _ => rfl
  have b8 := F8.binds (ps := ["a", "b"]) fun _ _ _ _ _ _ us hl => match us, hl with | [_, _], _ => rfl
  have b9 := F9.binds (ps := ["a", "b"]) fun _ _ _ _ _ _ us hl => match us, hl with | [_, _], _ => rfl
  have b10 := F10.binds (ps := ["row", "n"]) fun _ _ _ _ _ _ us hl => match us, hl with | [_, _], _ => rfl
  have b11 := F11.binds (ps := ["pairs"]) fun _ _ _ _ _ _ us hl => match us, hl with | [_], _ => rfl
  have b12 := F12.binds (ps := ["value"]) fun _ _ _ _ _ _ us hl => match us, hl with | [_], _ => rfl
  have b13 := F13.binds (ps := ["drawn", "n", "t"]) fun _ _ _ _ _ _ us hl => match us, hl with | [_, _, _], _ => rfl
  have b14 := F14.binds (ps := ["numbers"]) fun _ _ _ _ _ _ us hl => match us, hl with | [_], _ => rfl
  have b15 := F15.binds (ps := ["numbers"]) fun _ _ _ _ _ _ us hl => match us, hl with | [_], _ => rfl
  have b16 := F16.binds (ps := ["table"]) fun _ _ _ _ _ _ us hl => match us, hl with | [_], _ => rfl
  have b17 := F17.binds (ps := ["source", "some"]) fun _ _ _ _ _ _ us hl => match us, hl with | [_, _], _ => rfl
  have b18 := F18.binds (ps := ["p", "q"]) fun _ _ _ _ _ _ us hl => match us, hl with | [_, _], _ => rfl
  have b19 := F19.binds (ps := ["n", "k"]) fun _ _ _ _ _ _ us hl => match us, hl with | [_, _], _ => rfl
  have b20 := F20.binds (ps := ["row", "n"]) fun _ _ _ _ _ _ us hl => match us, hl with | [_, _], _ => rfl
  have b21 := F21.binds (ps := ["source", "many"]) fun _ _ _ _ _ _ us hl => match us, hl with | [_, _], _ => rfl
  have b22 := F22.binds (ps := ["source", "powers", "many"]) fun _ _ _ _ _ _ us hl => match us, hl with | [_, _, _], _ => rfl
  have b23 := F23.binds (ps := ["drawn", "n", "t"]) fun _ _ _ _ _ _ us hl => match us, hl with | [_, _, _], _ => rfl
  have b24 := F24.binds (ps := ["many", "worths"]) fun _ _ _ _ _ _ us hl => match us, hl with | [_, _], _ => rfl
  have b25 := F25.binds (ps := ["table"]) fun _ _ _ _ _ _ us hl => match us, hl with | [_], _ => rfl
  have bl : ∀ x ∈ bnames, mg x = none := by
    intro x hx
    simp only [bnames, List.mem_cons, List.not_mem_nil, or_false] at hx
    rcases hx with rfl | rfl | rfl | rfl | rfl | rfl | rfl | rfl | rfl | rfl | rfl | rfl | rfl | rfl | rfl | rfl | rfl | rfl | rfl
    · exact PySem.W.mg_none_of X G z_len
    · exact PySem.W.mg_none_of X G z_abs
    · exact PySem.W.mg_none_of X G z_all
    · exact PySem.W.mg_none_of X G z_any
    · exact PySem.W.mg_none_of X G z_sum
    · exact PySem.W.mg_none_of X G z_tuple
    · exact PySem.W.mg_none_of X G z_list
    · exact PySem.W.mg_none_of X G z_repr
    · exact PySem.W.mg_none_of X G z_max
    · exact PySem.W.mg_none_of X G z_min
    · exact PySem.W.mg_none_of X G z_sorted
    · exact PySem.W.mg_none_of X G z_isinstance
    · exact PySem.W.mg_none_of X G z_int
    · exact PySem.W.mg_none_of X G z_bool
    · exact PySem.W.mg_none_of X G z_str
    · exact PySem.W.mg_none_of X G z_dict
    · exact PySem.W.mg_none_of X G z_range
    · exact PySem.W.mg_none_of X G z_enumerate
    · exact PySem.W.mg_none_of X G z_zip
  have po : ProgOk T prog K mg := by
    refine ⟨fun f x hn h => ?_, bl, fun _ => PySem.W.mg_of X G z_gcd⟩
    match f, h with
    | 0, h => cases h; exact ⟨pf_is_integer, _, _, rfl, rfl, PySem.W.mg_of X G a0, F0, b0, ok_pf_is_integer⟩
    | 1, h => cases h; exact ⟨pf_fraction_of, _, _, rfl, rfl, PySem.W.mg_of X G a1, F1, b1, ok_pf_fraction_of⟩
    | 2, h => cases h; exact ⟨pf_fraction_sum, _, _, rfl, rfl, PySem.W.mg_of X G a2, F2, b2, ok_pf_fraction_sum⟩
    | 3, h => cases h; exact ⟨pf_fraction_less, _, _, rfl, rfl, PySem.W.mg_of X G a3, F3, b3, ok_pf_fraction_less⟩
    | 4, h => cases h; exact ⟨pf_fraction_times, _, _, rfl, rfl, PySem.W.mg_of X G a4, F4, b4, ok_pf_fraction_times⟩
    | 5, h => cases h; exact ⟨pf_choose, _, _, rfl, rfl, PySem.W.mg_of X G a5, F5, b5, ok_pf_choose⟩
    | 6, h => cases h; exact ⟨pf_is_row, _, _, rfl, rfl, PySem.W.mg_of X G a6, F6, b6, ok_pf_is_row⟩
    | 7, h => cases h; exact ⟨pf_row_of, _, _, rfl, rfl, PySem.W.mg_of X G a7, F7, b7, ok_pf_row_of⟩
    | 8, h => cases h; exact ⟨pf_both_of, _, _, rfl, rfl, PySem.W.mg_of X G a8, F8, b8, ok_pf_both_of⟩
    | 9, h => cases h; exact ⟨pf_row_sum, _, _, rfl, rfl, PySem.W.mg_of X G a9, F9, b9, ok_pf_row_sum⟩
    | 10, h => cases h; exact ⟨pf_row_at, _, _, rfl, rfl, PySem.W.mg_of X G a10, F10, b10, ok_pf_row_at⟩
    | 11, h => cases h; exact ⟨pf_drawn_of, _, _, rfl, rfl, PySem.W.mg_of X G a11, F11, b11, ok_pf_drawn_of⟩
    | 12, h => cases h; exact ⟨pf_is_drawn, _, _, rfl, rfl, PySem.W.mg_of X G a12, F12, b12, ok_pf_is_drawn⟩
    | 13, h => cases h; exact ⟨pf_drawn_at, _, _, rfl, rfl, PySem.W.mg_of X G a13, F13, b13, ok_pf_drawn_at⟩
    | 14, h => cases h; exact ⟨pf_steps_of, _, _, rfl, rfl, PySem.W.mg_of X G a14, F14, b14, ok_pf_steps_of⟩
    | 15, h => cases h; exact ⟨pf_powers_through, _, _, rfl, rfl, PySem.W.mg_of X G a15, F15, b15, ok_pf_powers_through⟩
    | 16, h => cases h; exact ⟨pf_drawn_through, _, _, rfl, rfl, PySem.W.mg_of X G a16, F16, b16, ok_pf_drawn_through⟩
    | 17, h => cases h; exact ⟨pf__law_of, _, _, rfl, rfl, PySem.W.mg_of X G a17, F17, b17, ok_pf__law_of⟩
    | 18, h => cases h; exact ⟨pf__law_fraction, _, _, rfl, rfl, PySem.W.mg_of X G a18, F18, b18, ok_pf__law_fraction⟩
    | 19, h => cases h; exact ⟨pf__law_over, _, _, rfl, rfl, PySem.W.mg_of X G a19, F19, b19, ok_pf__law_over⟩
    | 20, h => cases h; exact ⟨pf__law_at, _, _, rfl, rfl, PySem.W.mg_of X G a20, F20, b20, ok_pf__law_at⟩
    | 21, h => cases h; exact ⟨pf__law_row, _, _, rfl, rfl, PySem.W.mg_of X G a21, F21, b21, ok_pf__law_row⟩
    | 22, h => cases h; exact ⟨pf__law_drawn, _, _, rfl, rfl, PySem.W.mg_of X G a22, F22, b22, ok_pf__law_drawn⟩
    | 23, h => cases h; exact ⟨pf__law_drawn_at, _, _, rfl, rfl, PySem.W.mg_of X G a23, F23, b23, ok_pf__law_drawn_at⟩
    | 24, h => cases h; exact ⟨pf__law_solved, _, _, rfl, rfl, PySem.W.mg_of X G a24, F24, b24, ok_pf__law_solved⟩
    | 25, h => cases h; exact ⟨pf__law_is_whole, _, _, rfl, rfl, PySem.W.mg_of X G a25, F25, b25, ok_pf__law_is_whole⟩
    | n + 26, h =>
      by_cases z : n + 26 = 1000
      · simp only [T, if_pos z] at h; cases h; exact absurd rfl hn
      · simp [T, z, nms] at h
  refine ⟨PySem.W.fnOf "law" "law" (defArgs (topS 33)) (defBody (topS 33)) (defScope (topS 33)) .none kVL dcL pmL anL cdL ctL, fun s v => .of_eq rfl, fun base _ _ => ?_⟩
  exact ok_law (k := 5) (mk := sr2) (O := pick2) (W := WW) (rest := (defBody (topS 33)).drop 1) FL scL rfl rfl rfl (by first | exact .inl rfl | exact .inr (.inl rfl)) (by first | exact .inl rfl | exact .inr rfl) rfl (by decide) (ok_init Fi (PySem.W.mg_none_of X G z_abs) (PySem.W.mg_none_of X G z_int)) (PySem.W.mg_of X G ai) ki bi
    (fun _ _ => ⟨rfl, rfl⟩) (fun g1 g2 => ⟨fap, _, _, PySem.W.mg_of X G ap, kp, bp, ok_pick Fp (PySem.W.mg_none_of X G z_len) (PySem.W.mg_none_of X G z_int)⟩) po okL (fun t => law_true t)
end PyI
open PySem PySem.W PyProof.Rows
set_option maxHeartbeats 0 in
theorem PySem.Challenge.cw_webvalues_k31_drawn_forms_through_tables_holds : PySem.Challenge.rw_webvalues_k31_drawn_forms_through_tables.Holds := by
  w_on; o_law; k_head; (case hw => w_witness2)
  k_fill
  refine PyI.walk_G (l := PySem.Challenge.rw_webvalues_k31_drawn_forms_through_tables) (n := 63) (k := 7) (x := "script") (sp := fun w => PyI.spLaw _) rfl (by decide) rfl ⟨rfl, by decide, by decide⟩ (fun w h Y => PySem.W.kIn_of Y) ?F (fun _ _ a ns hl hS => ⟨a, ns, rfl, hS, hl, fun _ => rfl⟩)
  case F =>
    intro w mg fa h KX G hmg
    refine' PyI.all_mk KX G hmg ?ai ?li ?ci ?ki ?ap ?lp ?cp ?kp ?a0 ?l0 ?c0 ?k0 ?a1 ?l1 ?c1 ?k1 ?a2 ?l2 ?c2 ?k2 ?a3 ?l3 ?c3 ?k3 ?a4 ?l4 ?c4 ?k4 ?a5 ?l5 ?c5 ?k5 ?a6 ?l6 ?c6 ?k6 ?a7 ?l7 ?c7 ?k7 ?a8 ?l8 ?c8 ?k8 ?a9 ?l9 ?c9 ?k9 ?a10 ?l10 ?c10 ?k10 ?a11 ?l11 ?c11 ?k11 ?a12 ?l12 ?c12 ?k12 ?a13 ?l13 ?c13 ?k13 ?a14 ?l14 ?c14 ?k14 ?a15 ?l15 ?c15 ?k15 ?a16 ?l16 ?c16 ?k16 ?a17 ?l17 ?c17 ?k17 ?a18 ?l18 ?c18 ?k18 ?a19 ?l19 ?c19 ?k19 ?a20 ?l20 ?c20 ?k20 ?a21 ?l21 ?c21 ?k21 ?a22 ?l22 ?c22 ?k22 ?a23 ?l23 ?c23 ?k23 ?a24 ?l24 ?c24 ?k24 ?a25 ?l25 ?c25 ?k25 ?aL ?lL ?cL ?kL ?z_len ?z_abs ?z_all ?z_any ?z_sum ?z_tuple ?z_list ?z_repr ?z_max ?z_min ?z_sorted ?z_isinstance ?z_int ?z_bool ?z_str ?z_dict ?z_range ?z_enumerate ?z_zip ?z_gcd
    (case ai => k_is); (case li => k_is); (case ci => k_is); (case ki => k_is); (case ap => k_is); (case lp => k_is); (case cp => k_is); (case kp => k_is); (case a0 => k_is); (case l0 => k_is); (case c0 => k_is); (case k0 => k_is); (case a1 => k_is); (case l1 => k_is); (case c1 => k_is); (case k1 => k_is); (case a2 => k_is); (case l2 => k_is); (case c2 => k_is); (case k2 => k_is); (case a3 => k_is); (case l3 => k_is); (case c3 => k_is); (case k3 => k_is); (case a4 => k_is); (case l4 => k_is); (case c4 => k_is); (case k4 => k_is); (case a5 => k_is); (case l5 => k_is); (case c5 => k_is); (case k5 => k_is); (case a6 => k_is); (case l6 => k_is); (case c6 => k_is); (case k6 => k_is); (case a7 => k_is); (case l7 => k_is); (case c7 => k_is); (case k7 => k_is); (case a8 => k_is); (case l8 => k_is); (case c8 => k_is); (case k8 => k_is); (case a9 => k_is); (case l9 => k_is); (case c9 => k_is); (case k9 => k_is); (case a10 => k_is); (case l10 => k_is); (case c10 => k_is); (case k10 => k_is); (case a11 => k_is); (case l11 => k_is); (case c11 => k_is); (case k11 => k_is); (case a12 => k_is); (case l12 => k_is); (case c12 => k_is); (case k12 => k_is); (case a13 => k_is); (case l13 => k_is); (case c13 => k_is); (case k13 => k_is); (case a14 => k_is); (case l14 => k_is); (case c14 => k_is); (case k14 => k_is); (case a15 => k_is); (case l15 => k_is); (case c15 => k_is); (case k15 => k_is); (case a16 => k_is); (case l16 => k_is); (case c16 => k_is); (case k16 => k_is); (case a17 => k_is); (case l17 => k_is); (case c17 => k_is); (case k17 => k_is); (case a18 => k_is); (case l18 => k_is); (case c18 => k_is); (case k18 => k_is); (case a19 => k_is); (case l19 => k_is); (case c19 => k_is); (case k19 => k_is); (case a20 => k_is); (case l20 => k_is); (case c20 => k_is); (case k20 => k_is); (case a21 => k_is); (case l21 => k_is); (case c21 => k_is); (case k21 => k_is); (case a22 => k_is); (case l22 => k_is); (case c22 => k_is); (case k22 => k_is); (case a23 => k_is); (case l23 => k_is); (case c23 => k_is); (case k23 => k_is); (case a24 => k_is); (case l24 => k_is); (case c24 => k_is); (case k24 => k_is); (case a25 => k_is); (case l25 => k_is); (case c25 => k_is); (case k25 => k_is); (case aL => k_is); (case lL => k_is); (case cL => k_is); (case kL => k_is); (case z_len => k_is); (case z_abs => k_is); (case z_all => k_is); (case z_any => k_is); (case z_sum => k_is); (case z_tuple => k_is); (case z_list => k_is); (case z_repr => k_is); (case z_max => k_is); (case z_min => k_is); (case z_sorted => k_is); (case z_isinstance => k_is); (case z_int => k_is); (case z_bool => k_is); (case z_str => k_is); (case z_dict => k_is); (case z_range => k_is); (case z_enumerate => k_is); (case z_zip => k_is); (case z_gcd => k_is)
