import PyProof.Rows.All
import Wide.All
import OpenK.AllK
import Wide.FinOn
import HandS.ForMost
import HandS.Walk
import HandS.Zip
import HandS.IsInst
import HandS.Wide
import HandS.TupAny
import HandS.TupLe
import HandS.Deep
import HandS.SortInts
import HandS.Conv
import HandS.Rev
import HandS.Style
import KE.GoesEnum
import KE.GoesMore
import PySem.Challenge.RW_renamesteps_k02_homes_and_enclosing_scop
set_option Elab.async false
set_option linter.all false
set_option maxRecDepth 100000
set_option maxHeartbeats 4000000
/-! Z1: plain data, a compact syntax, its interpreter. -/
namespace Z
open PySem
abbrev Key := L2.Key

/-- plain data; ref n: the n-th object of the plain heap -/
inductive D where
  | non | bl (b : Bool) | int (i : Int) | str (x : Str) | tup (ds : List D) | ref (n : Nat)
/-- an object of the plain heap: a list, a list that is read alone, a dict with int and text keys -/
inductive O where
  | lst (xs : List D) | ro (xs : List D) | dK (kvs : List (Key × D))
abbrev Hq := List O
abbrev Lo := List (Option D)
abbrev line : Nat := 16777216

inductive Op | add | sub | mul | mod | fdiv | pow
  deriving DecidableEq
inductive Cp | eq | ne | lt | le | gt | ge | isIn | notIn | is | isnt
  deriving DecidableEq
inductive Bi | len | abs | int | mx | mn | sum | any | all | tuple | list | sorted | repr
  deriving DecidableEq
inductive Ty | int | bool | str | tuple | list | dict
  deriving DecidableEq
inductive Mt | append | extend | pop
  deriving DecidableEq
mutual
inductive M where
  | cst (d : D) | glb (x : Str) | var (i : Nat)
  | tup (es : List M) | lst (es : List M) | dnew
  | op (o : Op) (a b : M) | neg (a : M)
  | cmp (c : Cp) (a b : M) | chain (c c' : Cp) (a b d : M)
  | one (a : M) | and (a b : M) | or (a b : M) | not (a : M)
  | ite (t a b : M)
  | ix (a i : M) | slc (a : M) (lo hi : Option M)
  | call (f : Nat) (args : List M) | bi (b : Bi) (args : List M) | isi (a : M) (t : Ty)
  | mt (m : Mt) (o : M) (args : List M)
  | rng (b : Bi) (args : List M)
  | lc (own : List Nat) (it : I) (tg : T) (ifs : Option M) (elt : M)
  | bad
inductive I where
  | of (a : M) | range (args : List M) | enum (a : M) | zip (a b : M) | rev (a : M)
inductive T where
  | name (i : Nat) | tup (ts : List T) | sub (o i : M) | bad
end
inductive S where
  | asg (t : T) (e : M)
  | par (is : List Nat) (es : List M)
  | aug (i : Nat) (o : Op) (e : M)
  | expr (e : M) | ret (e : M) | retN
  | iff (t : M) (a b : List S) | whl (t : M) (b : List S) | for_ (t : T) (it : I) (b : List S)
  | brk | cont | pass | bad

/-- what a loop walks -/
inductive It where
  | items (ds : List D) | list (n : Nat) | enum (n : Nat) | zip (m n : Nat) | rev (n len : Nat)
inductive R where
  | val (d : D) (h : Hq) | vals (ds : List D) (h : Hq) | tst (b : Bool) (h : Hq) | itr (it : It) (h : Hq)
  | nx (ρ : Lo) (h : Hq) | ret (d : D) (h : Hq) | brk (ρ : Lo) (h : Hq) | cont (ρ : Lo) (h : Hq)
inductive J where
  | ex (k : Nat) (m : M) (ρ : Lo) (h : Hq) | exs (k : Nat) (ms : List M) (ρ : Lo) (h : Hq) | ts (k : Nat) (m : M) (ρ : Lo) (h : Hq)
  | it (k : Nat) (i : I) (ρ : Lo) (h : Hq)
  | as (k : Nat) (t : T) (d : D) (ρ : Lo) (h : Hq) | ass (k : Nat) (ts : List T) (ds : List D) (ρ : Lo) (h : Hq)
  | st (k : Nat) (s : S) (ρ : Lo) (h : Hq) | sts (k : Nat) (ss : List S) (ρ : Lo) (h : Hq)
  | forL (k : Nat) (it : It) (i : Nat) (t : T) (b : List S) (ρ : Lo) (h : Hq)
  | whL (k : Nat) (t : M) (b : List S) (ρ : Lo) (h : Hq)
  | lcL (k : Nat) (it : It) (i : Nat) (t : T) (ifs : Option M) (elt : M) (own : List Nat) (n : Nat) (ρ : Lo) (h : Hq)
  | call (k : Nat) (f : Nat) (ds : List D) (h : Hq)

/-! ### data as the library's data -/
def mapO {α β : Type} (f : α → Option β) : List α → Option (List β)
  | [] => some []
  | a :: r => match f a, mapO f r with
    | some b, some bs => some (b :: bs)
    | _, _ => none
def toPy (h : Hq) : Nat → D → Option PyData
  | 0, _ => none
  | _ + 1, .non => some .none
  | _ + 1, .bl b => some (.bool b)
  | _ + 1, .int i => some (.int i)
  | _ + 1, .str x => some (.str x)
  | n + 1, .tup ds => (mapO (toPy h n) ds).map .tuple
  | n + 1, .ref a => match h[a]? with
    | some (.lst xs) => (mapO (toPy h n) xs).map .list
    | some (.ro xs) => (mapO (toPy h n) xs).map .list
    | _ => none
abbrev deep : Nat := 66
def py (h : Hq) (d : D) : Option PyData := match toPy h deep d with
  | some p => if SeqAt.shaped p = true then some p else none
  | none => none

/-! ### operations -/
def lstAt (h : Hq) (n : Nat) : Option (List D) := match h[n]? with
  | some (.lst xs) => some xs
  | _ => none
/-- a list, also one that is read alone -/
def seqAt (h : Hq) (n : Nat) : Option (List D) := match h[n]? with
  | some (.lst xs) => some xs
  | some (.ro xs) => some xs
  | _ => none
def new (h : Hq) (o : O) : Option (D × Hq) := some (.ref h.length, h ++ [o])
def guard' (c : Prop) [Decidable c] {α : Type} (x : Option α) : Option α := if c then x else none
def binop (o : Op) (x y : D) (h : Hq) : Option (D × Hq) := match o, x, y with
  | .add, .int i, .int j => some (.int (i + j), h)
  | .add, .str a, .str b => if a.length + b.length ≤ line then some (.str (a ++ b), h) else none
  | .add, .tup a, .tup b => if a.length + b.length ≤ line then some (.tup (a ++ b), h) else none
  | .add, .ref m, .ref n => match lstAt h m, lstAt h n with
    | some a, some b => if a.length + b.length ≤ line then new h (.lst (a ++ b)) else none
    | _, _ => none
  | .sub, .int i, .int j => some (.int (i - j), h)
  | .mul, .int i, .int j => if i.natAbs.log2 + j.natAbs.log2 < 1000000 then some (.int (i * j), h) else none
  | .mul, .ref m, .int k => match lstAt h m with
    | some a => if -(2 ^ 63) ≤ k ∧ k < 2 ^ 63 ∧ a.length * k.toNat ≤ line then new h (.lst (List.replicate k.toNat a).flatten) else none
    | none => none
  | .mod, .int i, .int j => if 0 < j then some (.int (i % j), h) else none
  | .fdiv, .int i, .int j => if 0 < j ∧ j.natAbs.log2 < 9000 then some (.int (i / j), h) else none
  | .pow, .int i, .int j => if 0 ≤ j ∧ j ≤ 1000000 ∧ i.natAbs < 2 ^ 64 then some (.int (i ^ j.toNat), h) else none
  | _, _, _ => none
def bl? : D → Option Bool
  | .bl b => some b
  | _ => none
def int? : D → Option Int
  | .int b => some b
  | _ => none
def flat : D → Bool
  | .non => true | .bl _ => true | .int _ => true | .str _ => true | _ => false
/-- == of flat data -/
def flatEq : D → D → Bool
  | .non, .non => true
  | .bl a, .bl b => a == b
  | .bl a, .int j => (if a then 1 else 0) == j
  | .int i, .bl b => i == (if b then 1 else 0)
  | .int i, .int j => i == j
  | .str a, .str b => a == b
  | _, _ => false
def keyOf : D → Option Key
  | .int i => some (.inl i)
  | .str x => some (.inr x)
  | _ => none
def getK (kvs : List (Key × D)) (k : Key) : Option D := (kvs.find? fun kv => decide (kv.1 = k)).map (·.2)
def putK (kvs : List (Key × D)) (k : Key) (d : D) : List (Key × D) :=
  if (kvs.any fun kv => decide (kv.1 = k)) = true then kvs.map (fun kv => if kv.1 = k then (kv.1, d) else kv) else kvs ++ [(k, d)]
def isInD (x y : D) (h : Hq) : Option Bool := match y with
  | .tup ds => if flat x && ds.all flat then some (ds.any fun z => flatEq z x) else none
  | .ref n => match h[n]? with
    | some (.dK kvs) => (keyOf x).map fun k => (getK kvs k).isSome
    | some (.lst ds) => if flat x && ds.all flat then some (ds.any fun z => flatEq z x) else (match py h x, py h y with
      | some a, some (.list bs) => some (bs.any fun z => PyData.eqv z a)
      | _, _ => none)
    | some (.ro ds) => if flat x && ds.all flat then some (ds.any fun z => flatEq z x) else none
    | none => none
  | .str b => match x with
    | .str a => some (!(Builtin.Str.occurrences b a 0 b.length 1).isEmpty)
    | _ => none
  | _ => none
def intsOf : List D → Option (List Int)
  | [] => some []
  | .int i :: r => (intsOf r).map (i :: ·)
  | _ :: _ => none
def bolsOf : List D → Option (List Bool)
  | [] => some []
  | .bl b :: r => (bolsOf r).map (b :: ·)
  | _ :: _ => none
def cmpop (c : Cp) (x y : D) (h : Hq) : Option Bool := match c with
  | .eq => match x, y with
    | .int i, .int j => some (decide (i = j))
    | .str a, .str b => some (decide (a = b))
    | x, y => match py h x, py h y with
      | some a, some b => some (PyData.eqv a b)
      | _, _ => none
  | .ne => match x, y with
    | .int i, .int j => some (!decide (i = j))
    | .str a, .str b => some (!decide (a = b))
    | x, y => match py h x, py h y with
      | some a, some b => some (!PyData.eqv a b)
      | _, _ => none
  | .lt => match x, y with
    | .int i, .int j => some (decide (i < j))
    | .tup a, .tup b => match intsOf a, intsOf b with
      | some ns, some ms => some (HT.lexLt ns ms)
      | _, _ => none
    | _, _ => none
  | .le => match x, y with
    | .int i, .int j => some (decide (i ≤ j))
    | _, _ => none
  | .gt => match x, y with
    | .int i, .int j => some (decide (j < i))
    | _, _ => none
  | .ge => match x, y with
    | .int i, .int j => some (decide (j ≤ i))
    | _, _ => none
  | .isIn => isInD x y h
  | .notIn => (isInD x y h).map (!·)
  | .is => match x, y with
    | .bl a, .bl b => some (decide (a = b))
    | x, .non => some (match x with | .non => true | _ => false)
    | _, _ => none
  | .isnt => match x, y with
    | .bl a, .bl b => some (!decide (a = b))
    | x, .non => some (match x with | .non => false | _ => true)
    | _, _ => none
def ixD (x i : D) (h : Hq) : Option D := match x, i with
  | .tup ds, .int j => L2.atI ds j
  | .ref n, i => match h[n]? with
    | some (.dK kvs) => (keyOf i).bind fun k => getK kvs k
    | some (.lst ds) => (int? i).bind fun j => L2.atI ds j
    | some (.ro ds) => (int? i).bind fun j => L2.atI ds j
    | none => none
  | .str z, .int j => if z.length ≤ line then (L2.atI z.cps.toList j).map fun c => .str ⟨#[c]⟩ else none
  | _, _ => none
def cut (xs : List D) (lo hi : Option Int) : List D := (xs.drop (HT.sIx xs.length 0 lo)).take (HT.sIx xs.length xs.length hi - HT.sIx xs.length 0 lo)
def slD (x : D) (lo hi : Option Int) (h : Hq) : Option (D × Hq) := match x with
  | .tup ds => some (.tup (cut ds lo hi), h)
  | .ref n => (seqAt h n).bind fun ds => new h (.lst (cut ds lo hi))
  | _ => none
def maxI : List Int → Int
  | [] => 0
  | [i] => i
  | i :: j :: r => max i (maxI (j :: r))
def minI : List Int → Int
  | [] => 0
  | [i] => i
  | i :: j :: r => min i (minI (j :: r))
def biD (b : Bi) (xs : List D) (h : Hq) : Option (D × Hq) := match b, xs with
  | .len, [.tup ds] => some (.int (ds.length : Nat), h)
  | .len, [.str z] => if z.length ≤ line then some (.int (z.length : Nat), h) else none
  | .len, [.ref n] => match h[n]? with
    | some (.lst ds) => some (.int (ds.length : Nat), h)
    | some (.ro ds) => some (.int (ds.length : Nat), h)
    | some (.dK kvs) => some (.int (kvs.length : Nat), h)
    | none => none
  | .abs, [.int i] => some (.int (if i < 0 then -i else i), h)
  | .int, [.int i] => some (.int i, h)
  | .int, [.bl k] => some (.int (if k then 1 else 0), h)
  | .mx, [.int i, .int j] => some (.int (if j > i then j else i), h)
  | .mn, [.int i, .int j] => some (.int (if j < i then j else i), h)
  | .mx, [.ref n] => match (seqAt h n).bind intsOf with
    | some (i :: r) => some (.int (maxI (i :: r)), h)
    | _ => none
  | .mn, [.ref n] => match (seqAt h n).bind intsOf with
    | some (i :: r) => some (.int (minI (i :: r)), h)
    | _ => none
  | .sum, [.ref n] => ((seqAt h n).bind intsOf).map fun ns => (.int ns.sum, h)
  | .any, [.ref n] => ((seqAt h n).bind bolsOf).map fun bs => (.bl (bs.any id), h)
  | .all, [.ref n] => ((seqAt h n).bind bolsOf).map fun bs => (.bl (bs.all id), h)
  | .tuple, [.tup ds] => some (.tup ds, h)
  | .tuple, [.ref n] => (seqAt h n).map fun ds => (.tup ds, h)
  | .list, [.tup ds] => new h (.lst ds)
  | .list, [.ref n] => (seqAt h n).bind fun ds => new h (.lst ds)
  | .sorted, [.ref n] => ((seqAt h n).bind intsOf).bind fun ns => new h (.lst ((ns.mergeSort (fun a b => decide (a ≤ b))).map .int))
  | .repr, [d] => match py h d with
    | some p => if PyData.showable p = true ∧ p.shown.length ≤ line then some (.str p.shown, h) else none
    | none => none
  | _, _ => none
def tyD (x : D) (h : Hq) : Option Ty := match x with
  | .bl _ => some .bool
  | .int _ => some .int
  | .str _ => some .str
  | .tup _ => some .tuple
  | .ref n => match h[n]? with
    | some (.lst _) => some .list
    | some (.dK _) => some .dict
    | _ => none
  | .non => none
def isiD (x : D) (t : Ty) (h : Hq) : Option Bool := match x with
  | .non => some false
  | .bl _ => some (t == .bool || t == .int)
  | x => (tyD x h).map fun u => t == u
def mtD (m : Mt) (o : D) (xs : List D) (h : Hq) : Option (D × Hq) := match o with
  | .ref n => match lstAt h n with
    | some ys => match m, xs with
      | .append, [x] => if ys.length < line then some (.non, h.set n (.lst (ys ++ [x]))) else none
      | .extend, [.ref b] => match lstAt h b with
        | some zs => if ys.length + zs.length ≤ line then some (.non, h.set n (.lst (ys ++ zs))) else none
        | none => none
      | .pop, [] => match ys[ys.length - 1]? with
        | some y => some (y, h.set n (.lst ys.dropLast))
        | none => none
      | _, _ => none
    | none => none
  | _ => none
def setD (o i v : D) (h : Hq) : Option Hq := match o with
  | .ref n => match h[n]? with
    | some (.lst xs) => (int? i).bind fun k => (L2.ixN xs.length k).map fun j => h.set n (.lst (xs.set j v))
    | some (.dK kvs) => (keyOf i).bind fun k => if kvs.length < line then some (h.set n (.dK (putK kvs k v))) else none
    | _ => none
  | _ => none
def strItems (z : Str) : List D := z.cps.toList.map fun c => .str ⟨#[c]⟩
def rgI (a b : Int) : List D := (List.range (b - a).toNat).map fun i => .int (a + (i : Nat))
def rangeD (xs : List D) : Option (List D) := match xs with
  | [.int j] => if -(2 ^ 62) ≤ j ∧ j < 2 ^ 62 then some (rgI 0 j) else none
  | [.int i, .int j] => if -(2 ^ 62) ≤ i ∧ i < 2 ^ 62 ∧ -(2 ^ 62) ≤ j ∧ j < 2 ^ 62 then some (rgI i j) else none
  | _ => none
/-- tuple(range(..)), list(range(..)) -/
def rngD (b : Bi) (xs : List D) (h : Hq) : Option (D × Hq) := match rangeD xs with
  | some ds => if ds.length ≤ line then (match b with
    | .tuple => some (.tup ds, h)
    | .list => new h (.lst ds)
    | _ => none) else none
  | none => none
def enumD : Nat → List D → List D
  | _, [] => []
  | i, d :: r => .tup [.int (i : Nat), d] :: enumD (i + 1) r
def itD (d : D) (h : Hq) : Option It := match d with
  | .tup ds => some (.items ds)
  | .str z => some (.items (strItems z))
  | .ref n => (seqAt h n).map fun _ => .list n
  | _ => none
/-- the i-th turn: none: not told; some none: it stops -/
def turn (it : It) (i : Nat) (h : Hq) : Option (Option D) := match it with
  | .items ds => some ds[i]?
  | .list n => (seqAt h n).map fun ds => ds[i]?
  | .enum n => (seqAt h n).map fun ds => (ds[i]?).map fun d => .tup [.int (i : Nat), d]
  | .zip m n => match seqAt h m, seqAt h n with
    | some xs, some ys => some (match xs[i]?, ys[i]? with
      | some x, some y => some (.tup [x, y])
      | _, _ => none)
    | _, _ => none
  | .rev n len => match seqAt h n with
    | some xs => if xs.length = len then some (if i < len then xs[len - 1 - i]? else none) else none
    | none => none
def wipeL (ρ : Lo) : List Nat → Lo
  | [] => ρ
  | v :: vs => (wipeL ρ vs).set v none

/-! ### the interpreter -/
structure Fn where
  name : Str
  N : List Str
  ps : List Str
  st : Stmt
  body : List S
structure Tbl where
  fns : List Fn
  consts : List (Str × D)

def onV (r : Option R) (f : D → Hq → Option R) : Option R := match r with | some (.val d h) => f d h | _ => none
def onVs (r : Option R) (f : List D → Hq → Option R) : Option R := match r with | some (.vals d h) => f d h | _ => none
def onB (r : Option R) (f : Bool → Hq → Option R) : Option R := match r with | some (.tst d h) => f d h | _ => none
def onI (r : Option R) (f : It → Hq → Option R) : Option R := match r with | some (.itr d h) => f d h | _ => none
def onN (r : Option R) (f : Lo → Hq → Option R) : Option R := match r with | some (.nx d h) => f d h | _ => none
def recvOk (x : D) (h : Hq) : Bool := match x with
  | .ref n => (lstAt h n).isSome
  | _ => false
def toV (o : Option (D × Hq)) : Option R := o.map fun p => .val p.1 p.2
def toB (h : Hq) (o : Option Bool) : Option R := o.map fun b => .val (.bl b) h
def truth (d : D) (h : Hq) : Option Bool := match d with
  | .bl b => some b
  | .non => some false
  | .int i => some (i != 0)
  | .str z => if z.length ≤ line then some ((z.length : Int) != 0) else none
  | .tup ds => some (!ds.isEmpty)
  | .ref n => match h[n]? with
    | some (.lst xs) => some (!xs.isEmpty)
    | some (.ro xs) => some (!xs.isEmpty)
    | some (.dK kvs) => some (!kvs.isEmpty)
    | none => none

def stepE (T : Tbl) (ev : J → Option R) (k : Nat) (ρ : Lo) (h : Hq) : M → Option R
  | .cst d => some (.val d h)
  | .glb x => (T.consts.lookup x).map fun d => .val d h
  | .var i => match ρ[i]? with
    | some (some d) => some (.val d h)
    | _ => none
  | .tup es => onVs (ev (.exs k es ρ h)) fun ds h1 => if ds.length ≤ line then some (.val (.tup ds) h1) else none
  | .lst es => onVs (ev (.exs k es ρ h)) fun ds h1 => if ds.length ≤ line then toV (new h1 (.lst ds)) else none
  | .dnew => toV (new h (.dK []))
  | .op o a b => onV (ev (.ex k a ρ h)) fun x h1 => onV (ev (.ex k b ρ h1)) fun y h2 => toV (binop o x y h2)
  | .neg a => onV (ev (.ex k a ρ h)) fun x h1 => (int? x).map fun i => .val (.int (-i)) h1
  | .cmp c a b => onV (ev (.ex k a ρ h)) fun x h1 => onV (ev (.ex k b ρ h1)) fun y h2 => toB h2 (cmpop c x y h2)
  | .chain c c' a b d => onV (ev (.ex k a ρ h)) fun x h1 => onV (ev (.ex k b ρ h1)) fun y h2 => match cmpop c x y h2 with
    | some true => onV (ev (.ex k d ρ h2)) fun z h3 => toB h3 (cmpop c' y z h3)
    | some false => some (.val (.bl false) h2)
    | none => none
  | .one a => ev (.ex k a ρ h)
  | .and a b => onV (ev (.ex k a ρ h)) fun x h1 => match bl? x with
    | some true => ev (.ex k b ρ h1)
    | some false => some (.val (.bl false) h1)
    | none => none
  | .or a b => onV (ev (.ex k a ρ h)) fun x h1 => match bl? x with
    | some true => some (.val (.bl true) h1)
    | some false => ev (.ex k b ρ h1)
    | none => none
  | .not a => onV (ev (.ex k a ρ h)) fun x h1 => (bl? x).map fun b => .val (.bl (!b)) h1
  | .ite t a b => onB (ev (.ts k t ρ h)) fun c h1 => if c = true then ev (.ex k a ρ h1) else ev (.ex k b ρ h1)
  | .ix a i => onV (ev (.ex k a ρ h)) fun x h1 => onV (ev (.ex k i ρ h1)) fun y h2 => (ixD x y h2).map fun d => .val d h2
  | .slc a lo hi => onV (ev (.ex k a ρ h)) fun x h1 => match lo, hi with
    | none, none => toV (slD x none none h1)
    | some l, none => onV (ev (.ex k l ρ h1)) fun y h2 => match int? y with
      | some i => toV (slD x (some i) none h2)
      | none => none
    | none, some u => onV (ev (.ex k u ρ h1)) fun z h3 => match int? z with
      | some j => toV (slD x none (some j) h3)
      | none => none
    | some l, some u => onV (ev (.ex k l ρ h1)) fun y h2 => onV (ev (.ex k u ρ h2)) fun z h3 => match int? y, int? z with
      | some i, some j => toV (slD x (some i) (some j) h3)
      | _, _ => none
  | .call f args => onVs (ev (.exs k args ρ h)) fun ds h1 => ev (.call k f ds h1)
  | .bi b args => onVs (ev (.exs k args ρ h)) fun ds h1 => toV (biD b ds h1)
  | .isi a t => onV (ev (.ex k a ρ h)) fun x h1 => toB h1 (isiD x t h1)
  | .mt m o args => onV (ev (.ex k o ρ h)) fun x h1 => if recvOk x h1 = true then onVs (ev (.exs k args ρ h1)) fun ds h2 => toV (mtD m x ds h2) else none
  | .rng b args => onVs (ev (.exs k args ρ h)) fun ds h1 => toV (rngD b ds h1)
  | .lc own it tg ifs elt => onI (ev (.it k it ρ h)) fun w h1 => ev (.lcL k w 0 tg ifs elt own h1.length (wipeL ρ own) (h1 ++ [.lst []]))
  | .bad => none
def stepT (ev : J → Option R) (k : Nat) (ρ : Lo) (h : Hq) : M → Option R
  | .cmp c a b => onV (ev (.ex k a ρ h)) fun x h1 => onV (ev (.ex k b ρ h1)) fun y h2 => (cmpop c x y h2).map fun c => .tst c h2
  | .chain c c' a b d => onV (ev (.ex k a ρ h)) fun x h1 => onV (ev (.ex k b ρ h1)) fun y h2 => match cmpop c x y h2 with
    | some true => onV (ev (.ex k d ρ h2)) fun z h3 => (cmpop c' y z h3).map fun c => .tst c h3
    | some false => some (.tst false h2)
    | none => none
  | .one a => ev (.ts k a ρ h)
  | .and a b => onB (ev (.ts k a ρ h)) fun c h1 => if c = true then ev (.ts k b ρ h1) else some (.tst false h1)
  | .or a b => onB (ev (.ts k a ρ h)) fun c h1 => if c = true then some (.tst true h1) else ev (.ts k b ρ h1)
  | .not a => onB (ev (.ts k a ρ h)) fun c h1 => some (.tst (!c) h1)
  | .ite _ _ _ => none
  | m => onV (ev (.ex k m ρ h)) fun x h1 => (truth x h1).map fun c => .tst c h1
def stepI (ev : J → Option R) (k : Nat) (ρ : Lo) (h : Hq) : I → Option R
  | .of a => onV (ev (.ex k a ρ h)) fun x h1 => (itD x h1).map fun w => .itr w h1
  | .range args => onVs (ev (.exs k args ρ h)) fun ds h1 => (rangeD ds).map fun xs => .itr (.items xs) h1
  | .enum a => onV (ev (.ex k a ρ h)) fun x h1 => match x with
    | .tup ds => some (.itr (.items (enumD 0 ds)) h1)
    | .ref n => (seqAt h1 n).map fun _ => .itr (.enum n) h1
    | _ => none
  | .zip a b => onV (ev (.ex k a ρ h)) fun x h1 => onV (ev (.ex k b ρ h1)) fun y h2 => match x, y with
    | .tup xs, .tup ys => some (.itr (.items (List.zipWith (fun a b => D.tup [a, b]) xs ys)) h2)
    | .ref m, .ref n => match seqAt h2 m, seqAt h2 n with
      | some _, some _ => some (.itr (.zip m n) h2)
      | _, _ => none
    | _, _ => none
  | .rev a => onV (ev (.ex k a ρ h)) fun x h1 => match x with
    | .tup ds => some (.itr (.items ds.reverse) h1)
    | .ref n => (seqAt h1 n).map fun xs => .itr (.rev n xs.length) h1
    | _ => none
def stepS (ev : J → Option R) (k : Nat) (ρ : Lo) (h : Hq) : S → Option R
  | .asg t e => onV (ev (.ex k e ρ h)) fun x h1 => ev (.as k t x ρ h1)
  | .par is es => onVs (ev (.exs k es ρ h)) fun ds h1 => match is, ds with
    | [i, j], [x, y] => some (.nx ((ρ.set i (some x)).set j (some y)) h1)
    | [i, j, l], [x, y, z] => some (.nx (((ρ.set i (some x)).set j (some y)).set l (some z)) h1)
    | _, _ => none
  | .aug i o e => match ρ[i]? with
    | some (some x) => onV (ev (.ex k e ρ h)) fun y h1 => match o, x, y with
      | .add, .int a, .int b => some (.nx (ρ.set i (some (.int (a + b)))) h1)
      | .sub, .int a, .int b => some (.nx (ρ.set i (some (.int (a - b)))) h1)
      | _, _, _ => none
    | _ => none
  | .expr e => onV (ev (.ex k e ρ h)) fun _ h1 => some (.nx ρ h1)
  | .ret e => onV (ev (.ex k e ρ h)) fun x h1 => some (.ret x h1)
  | .retN => some (.ret .non h)
  | .iff t a b => onB (ev (.ts k t ρ h)) fun c h1 => if c = true then ev (.sts k a ρ h1) else ev (.sts k b ρ h1)
  | .whl t b => ev (.whL k t b ρ h)
  | .for_ t it b => onI (ev (.it k it ρ h)) fun w h1 => ev (.forL k w 0 t b ρ h1)
  | .brk => some (.brk ρ h)
  | .cont => some (.cont ρ h)
  | .pass => some (.nx ρ h)
  | .bad => none
/-- behind a loop's body -/
def onBody (r : Option R) (f : Lo → Hq → Option R) : Option R := match r with
  | some (.nx ρ h) => f ρ h
  | some (.cont ρ h) => f ρ h
  | some (.brk ρ h) => some (.nx ρ h)
  | some (.ret d h) => some (.ret d h)
  | _ => none
/-- behind a block's first statement -/
def onStmt (r : Option R) (f : Lo → Hq → Option R) : Option R := match r with
  | some (.nx ρ h) => f ρ h
  | some (.cont ρ h) => some (.cont ρ h)
  | some (.brk ρ h) => some (.brk ρ h)
  | some (.ret d h) => some (.ret d h)
  | _ => none
/-- behind a def's body -/
def onDef (r : Option R) : Option R := match r with
  | some (.nx _ h) => some (.val .non h)
  | some (.ret d h) => some (.val d h)
  | _ => none
def startL (n : Nat) (ds : List D) : Lo := ds.map some ++ List.replicate (n - ds.length) none
def step (T : Tbl) (ev : J → Option R) : J → Option R
  | .ex k m ρ h => stepE T ev k ρ h m
  | .exs k ms ρ h => match ms with
    | [] => some (.vals [] h)
    | m :: r => onV (ev (.ex k m ρ h)) fun x h1 => onVs (ev (.exs k r ρ h1)) fun xs h2 => some (.vals (x :: xs) h2)
  | .ts k m ρ h => stepT ev k ρ h m
  | .it k i ρ h => stepI ev k ρ h i
  | .as k t d ρ h => match t with
    | .name i => some (.nx (ρ.set i (some d)) h)
    | .tup ts => match d with
      | .tup ds => if ds.length = ts.length then ev (.ass k ts ds ρ h) else none
      | _ => none
    | .sub o i => onV (ev (.ex k o ρ h)) fun x h1 => onV (ev (.ex k i ρ h1)) fun y h2 => (setD x y d h2).map fun h3 => .nx ρ h3
    | .bad => none
  | .ass k ts ds ρ h => match ts, ds with
    | [], [] => some (.nx ρ h)
    | t :: tr, d :: dr => onN (ev (.as k t d ρ h)) fun ρ1 h1 => ev (.ass k tr dr ρ1 h1)
    | _, _ => none
  | .st k s ρ h => stepS ev k ρ h s
  | .sts k ss ρ h => match ss with
    | [] => some (.nx ρ h)
    | s :: r => onStmt (ev (.st k s ρ h)) fun ρ1 h1 => ev (.sts k r ρ1 h1)
  | .forL k it i t b ρ h => match turn it i h with
    | none => none
    | some none => some (.nx ρ h)
    | some (some d) => onN (ev (.as k t d ρ h)) fun ρ1 h1 => onBody (ev (.sts k b ρ1 h1)) fun ρ2 h2 => ev (.forL k it (i + 1) t b ρ2 h2)
  | .whL k t b ρ h => onB (ev (.ts k t ρ h)) fun c h1 => if c = true then onBody (ev (.sts k b ρ h1)) fun ρ2 h2 => ev (.whL k t b ρ2 h2) else some (.nx ρ h1)
  | .lcL k it i t ifs elt own n ρ h => match turn it i h with
    | none => none
    | some none => some (.val (.ref n) h)
    | some (some d) => onN (ev (.as k t d ρ h)) fun ρ1 h1 => match ifs with
      | none => onV (ev (.ex k elt ρ1 h1)) fun y h3 => match lstAt h3 n with
        | some acc => if acc.length < line then ev (.lcL k it (i + 1) t ifs elt own n ρ (h3.set n (.lst (acc ++ [y])))) else none
        | none => none
      | some c => onB (ev (.ts k c ρ1 h1)) fun b h2 => if b = true then (onV (ev (.ex k elt ρ1 h2)) fun y h3 => match lstAt h3 n with
        | some acc => if acc.length < line then ev (.lcL k it (i + 1) t ifs elt own n ρ (h3.set n (.lst (acc ++ [y])))) else none
        | none => none) else ev (.lcL k it (i + 1) t ifs elt own n ρ h2)
  | .call k f ds h => match k, T.fns[f]? with
    | k + 1, some F => if ds.length = F.ps.length then onDef (ev (.sts k F.body (startL F.N.length ds) h)) else none
    | _, _ => none

/-! ### it grows with what it calls -/
def Le (f g : J → Option R) : Prop := ∀ j r, f j = some r → g j = some r
section
variable {f g : J → Option R}
/-- what f gives, g gives -/
def Up (a b : Option R) : Prop := ∀ r, a = some r → b = some r
theorem Up.rfl {a : Option R} : Up a a := fun _ h => h
theorem Up.onV {a b : Option R} {p q : D → Hq → Option R} (h : Up a b) (k : ∀ d w, Up (p d w) (q d w)) : Up (onV a p) (onV b q) := by
  intro r e
  cases a with
  | none => simp [Z.onV] at e
  | some x => rw [h x (Eq.refl _)]; cases x <;> simp [Z.onV] at e ⊢; exact k _ _ _ e
theorem Up.onVs {a b : Option R} {p q : List D → Hq → Option R} (h : Up a b) (k : ∀ d w, Up (p d w) (q d w)) : Up (onVs a p) (onVs b q) := by
  intro r e
  cases a with
  | none => simp [Z.onVs] at e
  | some x => rw [h x (Eq.refl _)]; cases x <;> simp [Z.onVs] at e ⊢; exact k _ _ _ e
theorem Up.onB {a b : Option R} {p q : Bool → Hq → Option R} (h : Up a b) (k : ∀ d w, Up (p d w) (q d w)) : Up (onB a p) (onB b q) := by
  intro r e
  cases a with
  | none => simp [Z.onB] at e
  | some x => rw [h x (Eq.refl _)]; cases x <;> simp [Z.onB] at e ⊢; exact k _ _ _ e
theorem Up.onI {a b : Option R} {p q : It → Hq → Option R} (h : Up a b) (k : ∀ d w, Up (p d w) (q d w)) : Up (onI a p) (onI b q) := by
  intro r e
  cases a with
  | none => simp [Z.onI] at e
  | some x => rw [h x (Eq.refl _)]; cases x <;> simp [Z.onI] at e ⊢; exact k _ _ _ e
theorem Up.onN {a b : Option R} {p q : Lo → Hq → Option R} (h : Up a b) (k : ∀ d w, Up (p d w) (q d w)) : Up (onN a p) (onN b q) := by
  intro r e
  cases a with
  | none => simp [Z.onN] at e
  | some x => rw [h x (Eq.refl _)]; cases x <;> simp [Z.onN] at e ⊢; exact k _ _ _ e
theorem Up.onBody {a b : Option R} {p q : Lo → Hq → Option R} (h : Up a b) (k : ∀ d w, Up (p d w) (q d w)) : Up (onBody a p) (onBody b q) := by
  intro r e
  cases a with
  | none => simp [Z.onBody] at e
  | some x => rw [h x (Eq.refl _)]; cases x <;> simp [Z.onBody] at e ⊢ <;> first | exact k _ _ _ e | exact e
theorem Up.onStmt {a b : Option R} {p q : Lo → Hq → Option R} (h : Up a b) (k : ∀ d w, Up (p d w) (q d w)) : Up (onStmt a p) (onStmt b q) := by
  intro r e
  cases a with
  | none => simp [Z.onStmt] at e
  | some x => rw [h x (Eq.refl _)]; cases x <;> simp [Z.onStmt] at e ⊢ <;> first | exact k _ _ _ e | exact e
theorem Up.onDef {a b : Option R} (h : Up a b) : Up (onDef a) (onDef b) := by
  intro r e
  cases a with
  | none => simp [Z.onDef] at e
  | some x => rw [h x (Eq.refl _)]; exact e
theorem Up.ite {c : Prop} [Decidable c] {a b a' b' : Option R} (h : Up a b) (h' : Up a' b') : Up (if c then a else a') (if c then b else b') := by
  by_cases hc : c
  · rw [if_pos hc, if_pos hc]; exact h
  · rw [if_neg hc, if_neg hc]; exact h'
theorem step_le (T : Tbl) (h : Le f g) : Le (step T f) (step T g) := by
  intro j
  show Up _ _
  have q : ∀ j, Up (f j) (g j) := fun j r e => h j r e
  cases j with
  | ex k m ρ w =>
    show Up (stepE T f k ρ w m) (stepE T g k ρ w m)
    cases m <;> simp only [stepE]
    case cst => exact .rfl
    case glb => exact .rfl
    case var => exact .rfl
    case tup => exact (q _).onVs fun _ _ => .rfl
    case lst => exact (q _).onVs fun _ _ => .rfl
    case dnew => exact .rfl
    case op => exact (q _).onV fun _ _ => (q _).onV fun _ _ => .rfl
    case neg => exact (q _).onV fun _ _ => .rfl
    case cmp => exact (q _).onV fun _ _ => (q _).onV fun _ _ => .rfl
    case chain =>
      refine (q _).onV fun _ _ => (q _).onV fun _ _ => ?_
      split
      · exact (q _).onV fun _ _ => .rfl
      · exact .rfl
      · exact .rfl
    case one => exact q _
    case and =>
      refine (q _).onV fun _ _ => ?_
      split
      · exact q _
      · exact .rfl
      · exact .rfl
    case or =>
      refine (q _).onV fun _ _ => ?_
      split
      · exact .rfl
      · exact q _
      · exact .rfl
    case not => exact (q _).onV fun _ _ => .rfl
    case ite => exact (q _).onB fun _ _ => .ite (q _) (q _)
    case ix => exact (q _).onV fun _ _ => (q _).onV fun _ _ => .rfl
    case slc a lo hi =>
      refine (q _).onV fun _ _ => ?_
      cases lo <;> cases hi <;> simp only
      · exact .rfl
      · exact (q _).onV fun _ _ => .rfl
      · exact (q _).onV fun _ _ => .rfl
      · exact (q _).onV fun _ _ => (q _).onV fun _ _ => .rfl
    case call => exact (q _).onVs fun _ _ => q _
    case bi => exact (q _).onVs fun _ _ => .rfl
    case isi => exact (q _).onV fun _ _ => .rfl
    case mt => exact (q _).onV fun _ _ => .ite ((q _).onVs fun _ _ => .rfl) .rfl
    case rng => exact (q _).onVs fun _ _ => .rfl
    case lc => exact (q _).onI fun _ _ => q _
    case bad => exact .rfl
  | exs k ms ρ w =>
    cases ms with
    | nil => exact .rfl
    | cons m r => exact (q _).onV fun _ _ => (q _).onVs fun _ _ => .rfl
  | ts k m ρ w =>
    show Up (stepT f k ρ w m) (stepT g k ρ w m)
    cases m <;> simp only [stepT]
    case cmp => exact (q _).onV fun _ _ => (q _).onV fun _ _ => .rfl
    case chain =>
      refine (q _).onV fun _ _ => (q _).onV fun _ _ => ?_
      split
      · exact (q _).onV fun _ _ => .rfl
      · exact .rfl
      · exact .rfl
    case one => exact q _
    case and => exact (q _).onB fun _ _ => .ite (q _) .rfl
    case or => exact (q _).onB fun _ _ => .ite .rfl (q _)
    case not => exact (q _).onB fun _ _ => .rfl
    case ite => exact .rfl
    all_goals exact (q _).onV fun _ _ => .rfl
  | it k i ρ w =>
    show Up (stepI f k ρ w i) (stepI g k ρ w i)
    cases i <;> simp only [stepI]
    case of => exact (q _).onV fun _ _ => .rfl
    case range => exact (q _).onVs fun _ _ => .rfl
    case enum => exact (q _).onV fun _ _ => .rfl
    case zip => exact (q _).onV fun _ _ => (q _).onV fun _ _ => .rfl
    case rev => exact (q _).onV fun _ _ => .rfl
  | as k t d ρ w =>
    cases t with
    | name i => exact .rfl
    | tup ts =>
      cases d <;> first | exact .rfl | exact .ite (q _) .rfl
    | sub o i => exact (q _).onV fun _ _ => (q _).onV fun _ _ => .rfl
    | bad => exact .rfl
  | ass k ts ds ρ w =>
    cases ts <;> cases ds <;> first | exact .rfl | exact (q _).onN fun _ _ => q _
  | st k s ρ w =>
    show Up (stepS f k ρ w s) (stepS g k ρ w s)
    cases s <;> simp only [stepS]
    case asg => exact (q _).onV fun _ _ => q _
    case par => exact (q _).onVs fun _ _ => .rfl
    case aug =>
      split
      · exact (q _).onV fun _ _ => .rfl
      · exact .rfl
    case expr => exact (q _).onV fun _ _ => .rfl
    case ret => exact (q _).onV fun _ _ => .rfl
    case retN => exact .rfl
    case iff => exact (q _).onB fun _ _ => .ite (q _) (q _)
    case whl => exact q _
    case for_ => exact (q _).onI fun _ _ => q _
    case brk => exact .rfl
    case cont => exact .rfl
    case pass => exact .rfl
    case bad => exact .rfl
  | sts k ss ρ w =>
    cases ss with
    | nil => exact .rfl
    | cons s r => exact (q _).onStmt fun _ _ => q _
  | forL k it i t b ρ w =>
    simp only [step]
    split
    · exact .rfl
    · exact .rfl
    · exact (q _).onN fun _ _ => (q _).onBody fun _ _ => q _
  | whL k t b ρ w => exact (q _).onB fun _ _ => .ite ((q _).onBody fun _ _ => q _) .rfl
  | lcL k it i t ifs elt own n ρ w =>
    simp only [step]
    have tail : ∀ ρ1 h1, Up (onV (f (.ex k elt ρ1 h1)) fun y h3 => match lstAt h3 n with
        | some acc => if acc.length < line then f (.lcL k it (i + 1) t ifs elt own n ρ (h3.set n (.lst (acc ++ [y])))) else none
        | none => none) (onV (g (.ex k elt ρ1 h1)) fun y h3 => match lstAt h3 n with
        | some acc => if acc.length < line then g (.lcL k it (i + 1) t ifs elt own n ρ (h3.set n (.lst (acc ++ [y])))) else none
        | none => none) := fun ρ1 h1 => (q _).onV fun _ h3 => by
      cases lstAt h3 n with
      | none => exact .rfl
      | some acc => exact .ite (q _) .rfl
    split
    · exact .rfl
    · exact .rfl
    · refine (q _).onN fun _ _ => ?_
      cases ifs with
      | none => exact tail _ _
      | some c => exact (q _).onB fun _ _ => .ite (tail _ _) (q _)
  | call k f' ds w =>
    simp only [step]
    split
    · exact .ite (q _).onDef .rfl
    · exact .rfl
end
theorem flat_or {a b : Option R} (h : Lean.Order.PartialOrder.rel a b) : a = none ∨ a = b := by
  have h' : @Lean.Order.FlatOrder.rel (Option R) none a b := h
  generalize ha : a = a' at h'
  generalize hb : b = b' at h'
  cases h' with
  | bot => exact .inl rfl
  | refl => exact .inr rfl
theorem or_flat {a b : Option R} (h : a = none ∨ a = b) : Lean.Order.PartialOrder.rel a b := by
  show @Lean.Order.FlatOrder.rel (Option R) none a b
  rcases h with rfl | rfl
  · exact .bot
  · exact .refl
theorem step_mono (T : Tbl) : Lean.Order.monotone (fun (f : J → Option R) (j : J) => step T f j) := by
  intro f g hfg j
  have hL : Le f g := fun j r e => by
    rcases flat_or (hfg j) with z | z
    · rw [z] at e; cases e
    · rw [← z]; exact e
  refine or_flat ?_
  show step T f j = none ∨ step T f j = step T g j
  cases e : step T f j with
  | none => exact .inl rfl
  | some r => exact .inr (step_le T hL j r e).symm
def ev (T : Tbl) (j : J) : Option R := step T (ev T) j
partial_fixpoint monotonicity step_mono T
theorem ev_eq (T : Tbl) (j : J) : ev T j = step T (ev T) j := ev.eq_1 T j

/-- with fuel, to be computed -/
def run (T : Tbl) : Nat → J → Option R
  | 0, _ => none
  | n + 1, j => step T (run T n) j
theorem run_succ {T : Tbl} : ∀ {n : Nat} {j : J} {r : R}, run T n j = some r → run T (n + 1) j = some r
  | 0, _, _, h => nomatch h
  | n + 1, j, r, h => step_le T (fun _ _ e => run_succ e) j r h
theorem run_le {T : Tbl} {n m : Nat} (hm : n ≤ m) {j : J} {r : R} (h : run T n j = some r) : run T m j = some r := by
  induction hm with
  | refl => exact h
  | step _ ih => exact run_succ ih
theorem ev_of_run {T : Tbl} : ∀ {n : Nat} {j : J} {r : R}, run T n j = some r → ev T j = some r
  | 0, _, _, h => nomatch h
  | n + 1, j, r, h => by
    rw [ev_eq]
    exact step_le T (fun _ _ e => ev_of_run e) j r h
/-- what a gives, b gives from some place on -/
def Cn (a : Option R) (b : Nat → Option R) : Prop := ∀ r, a = some r → ∃ n, ∀ m, n ≤ m → b m = some r
theorem Cn.rfl {a : Option R} : Cn a (fun _ => a) := fun _ h => ⟨0, fun _ _ => h⟩
theorem Cn.gen {β : Type} {ψ : (β → Hq → Option R) → Option R → Option R} {pick : R → Option (β × Hq)} (h1 : ∀ p x r, ψ p x = some r → ∃ y, x = some y) (h2 : ∀ p y r, ψ p (some y) = some r → (∃ d w, pick y = some (d, w) ∧ p d w = some r) ∨ (pick y = none ∧ ∀ q, ψ q (some y) = some r))
    (h3 : ∀ p y d w, pick y = some (d, w) → ψ p (some y) = p d w) {a : Option R} {b : Nat → Option R} {p : β → Hq → Option R} {q : Nat → β → Hq → Option R} (h : Cn a b) (k : ∀ d w, Cn (p d w) (fun n => q n d w)) : Cn (ψ p a) (fun n => ψ (q n) (b n)) := by
  intro r e
  obtain ⟨y, rfl⟩ := h1 _ _ _ e
  obtain ⟨n1, hn1⟩ := h y (Eq.refl _)
  rcases h2 _ _ _ e with ⟨d, w, e1, e2⟩ | ⟨_, e2⟩
  · obtain ⟨n2, hn2⟩ := k d w r e2
    refine ⟨n1 + n2, fun m hm => ?_⟩
    show ψ (q m) (b m) = _
    rw [hn1 m (by omega), h3 _ _ _ _ e1]
    exact hn2 m (by omega)
  · refine ⟨n1, fun m hm => ?_⟩
    show ψ (q m) (b m) = _
    rw [hn1 m hm]
    exact e2 _
theorem Cn.onV {a : Option R} {b : Nat → Option R} {p : D → Hq → Option R} {q : Nat → D → Hq → Option R} (h : Cn a b) (k : ∀ d w, Cn (p d w) (fun n => q n d w)) : Cn (onV a p) (fun n => onV (b n) (q n)) :=
  Cn.gen (ψ := fun p x => Z.onV x p) (pick := fun y => match y with | .val d w => some (d, w) | _ => none) (fun p x r e => by cases x <;> first | exact ⟨_, Eq.refl _⟩ | simp [Z.onV] at e) (fun p y r e => by cases y <;> first | exact .inl ⟨_, _, Eq.refl _, e⟩ | exact .inr ⟨Eq.refl _, fun _ => e⟩ | simp [Z.onV] at e) (fun p y d w e => by cases y <;> simp at e; obtain ⟨rfl, rfl⟩ := e; simp [Z.onV]) h k
theorem Cn.onVs {a : Option R} {b : Nat → Option R} {p : List D → Hq → Option R} {q : Nat → List D → Hq → Option R} (h : Cn a b) (k : ∀ d w, Cn (p d w) (fun n => q n d w)) : Cn (onVs a p) (fun n => onVs (b n) (q n)) :=
  Cn.gen (ψ := fun p x => Z.onVs x p) (pick := fun y => match y with | .vals d w => some (d, w) | _ => none) (fun p x r e => by cases x <;> first | exact ⟨_, Eq.refl _⟩ | simp [Z.onVs] at e) (fun p y r e => by cases y <;> first | exact .inl ⟨_, _, Eq.refl _, e⟩ | exact .inr ⟨Eq.refl _, fun _ => e⟩ | simp [Z.onVs] at e) (fun p y d w e => by cases y <;> simp at e; obtain ⟨rfl, rfl⟩ := e; simp [Z.onVs]) h k
theorem Cn.onB {a : Option R} {b : Nat → Option R} {p : Bool → Hq → Option R} {q : Nat → Bool → Hq → Option R} (h : Cn a b) (k : ∀ d w, Cn (p d w) (fun n => q n d w)) : Cn (onB a p) (fun n => onB (b n) (q n)) :=
  Cn.gen (ψ := fun p x => Z.onB x p) (pick := fun y => match y with | .tst d w => some (d, w) | _ => none) (fun p x r e => by cases x <;> first | exact ⟨_, Eq.refl _⟩ | simp [Z.onB] at e) (fun p y r e => by cases y <;> first | exact .inl ⟨_, _, Eq.refl _, e⟩ | exact .inr ⟨Eq.refl _, fun _ => e⟩ | simp [Z.onB] at e) (fun p y d w e => by cases y <;> simp at e; obtain ⟨rfl, rfl⟩ := e; simp [Z.onB]) h k
theorem Cn.onI {a : Option R} {b : Nat → Option R} {p : It → Hq → Option R} {q : Nat → It → Hq → Option R} (h : Cn a b) (k : ∀ d w, Cn (p d w) (fun n => q n d w)) : Cn (onI a p) (fun n => onI (b n) (q n)) :=
  Cn.gen (ψ := fun p x => Z.onI x p) (pick := fun y => match y with | .itr d w => some (d, w) | _ => none) (fun p x r e => by cases x <;> first | exact ⟨_, Eq.refl _⟩ | simp [Z.onI] at e) (fun p y r e => by cases y <;> first | exact .inl ⟨_, _, Eq.refl _, e⟩ | exact .inr ⟨Eq.refl _, fun _ => e⟩ | simp [Z.onI] at e) (fun p y d w e => by cases y <;> simp at e; obtain ⟨rfl, rfl⟩ := e; simp [Z.onI]) h k
theorem Cn.onN {a : Option R} {b : Nat → Option R} {p : Lo → Hq → Option R} {q : Nat → Lo → Hq → Option R} (h : Cn a b) (k : ∀ d w, Cn (p d w) (fun n => q n d w)) : Cn (onN a p) (fun n => onN (b n) (q n)) :=
  Cn.gen (ψ := fun p x => Z.onN x p) (pick := fun y => match y with | .nx d w => some (d, w) | _ => none) (fun p x r e => by cases x <;> first | exact ⟨_, Eq.refl _⟩ | simp [Z.onN] at e) (fun p y r e => by cases y <;> first | exact .inl ⟨_, _, Eq.refl _, e⟩ | exact .inr ⟨Eq.refl _, fun _ => e⟩ | simp [Z.onN] at e) (fun p y d w e => by cases y <;> simp at e; obtain ⟨rfl, rfl⟩ := e; simp [Z.onN]) h k
theorem Cn.onBody {a : Option R} {b : Nat → Option R} {p : Lo → Hq → Option R} {q : Nat → Lo → Hq → Option R} (h : Cn a b) (k : ∀ d w, Cn (p d w) (fun n => q n d w)) : Cn (onBody a p) (fun n => onBody (b n) (q n)) :=
  Cn.gen (ψ := fun p x => Z.onBody x p) (pick := fun y => match y with | .nx d w => some (d, w) | .cont d w => some (d, w) | _ => none) (fun p x r e => by cases x <;> first | exact ⟨_, Eq.refl _⟩ | simp [Z.onBody] at e) (fun p y r e => by cases y <;> first | exact .inl ⟨_, _, Eq.refl _, e⟩ | exact .inr ⟨Eq.refl _, fun _ => e⟩ | simp [Z.onBody] at e) (fun p y d w e => by cases y <;> simp at e <;> (obtain ⟨rfl, rfl⟩ := e; simp [Z.onBody])) h k
theorem Cn.onStmt {a : Option R} {b : Nat → Option R} {p : Lo → Hq → Option R} {q : Nat → Lo → Hq → Option R} (h : Cn a b) (k : ∀ d w, Cn (p d w) (fun n => q n d w)) : Cn (onStmt a p) (fun n => onStmt (b n) (q n)) :=
  Cn.gen (ψ := fun p x => Z.onStmt x p) (pick := fun y => match y with | .nx d w => some (d, w) | _ => none) (fun p x r e => by cases x <;> first | exact ⟨_, Eq.refl _⟩ | simp [Z.onStmt] at e) (fun p y r e => by cases y <;> first | exact .inl ⟨_, _, Eq.refl _, e⟩ | exact .inr ⟨Eq.refl _, fun _ => e⟩ | simp [Z.onStmt] at e) (fun p y d w e => by cases y <;> simp at e; obtain ⟨rfl, rfl⟩ := e; simp [Z.onStmt]) h k
theorem Cn.onDef {a : Option R} {b : Nat → Option R} (h : Cn a b) : Cn (onDef a) (fun n => onDef (b n)) := by
  intro r e
  cases a with
  | none => simp [Z.onDef] at e
  | some x =>
    obtain ⟨n, hn⟩ := h x (Eq.refl _)
    refine ⟨n, fun m hm => ?_⟩
    show Z.onDef (b m) = _
    rw [hn m hm]; exact e
theorem Cn.ite {c : Prop} [Decidable c] {a a' : Option R} {b b' : Nat → Option R} (h : Cn a b) (h' : Cn a' b') : Cn (if c then a else a') (fun n => if c then b n else b' n) := by
  by_cases hc : c
  · simp only [if_pos hc]; exact h
  · simp only [if_neg hc]; exact h'
theorem step_cn (T : Tbl) {f : J → Option R} {g : Nat → J → Option R} (q : ∀ j, Cn (f j) (fun n => g n j)) (j : J) : Cn (step T f j) (fun n => step T (g n) j) := by
  cases j with
  | ex k m ρ w =>
    show Cn (stepE T f k ρ w m) (fun n => stepE T (g n) k ρ w m)
    cases m <;> simp only [stepE]
    case cst => exact .rfl
    case glb => exact .rfl
    case var => exact .rfl
    case tup => exact (q _).onVs fun _ _ => .rfl
    case lst => exact (q _).onVs fun _ _ => .rfl
    case dnew => exact .rfl
    case op => exact (q _).onV fun _ _ => (q _).onV fun _ _ => .rfl
    case neg => exact (q _).onV fun _ _ => .rfl
    case cmp => exact (q _).onV fun _ _ => (q _).onV fun _ _ => .rfl
    case chain =>
      refine (q _).onV fun _ _ => (q _).onV fun _ _ => ?_
      split
      · exact (q _).onV fun _ _ => .rfl
      · exact .rfl
      · exact .rfl
    case one => exact q _
    case and =>
      refine (q _).onV fun _ _ => ?_
      split
      · exact q _
      · exact .rfl
      · exact .rfl
    case or =>
      refine (q _).onV fun _ _ => ?_
      split
      · exact .rfl
      · exact q _
      · exact .rfl
    case not => exact (q _).onV fun _ _ => .rfl
    case ite => exact (q _).onB fun _ _ => .ite (q _) (q _)
    case ix => exact (q _).onV fun _ _ => (q _).onV fun _ _ => .rfl
    case slc a lo hi =>
      refine (q _).onV fun _ _ => ?_
      cases lo <;> cases hi <;> simp only
      · exact .rfl
      · exact (q _).onV fun _ _ => .rfl
      · exact (q _).onV fun _ _ => .rfl
      · exact (q _).onV fun _ _ => (q _).onV fun _ _ => .rfl
    case call => exact (q _).onVs fun _ _ => q _
    case bi => exact (q _).onVs fun _ _ => .rfl
    case isi => exact (q _).onV fun _ _ => .rfl
    case mt => exact (q _).onV fun _ _ => .ite ((q _).onVs fun _ _ => .rfl) .rfl
    case rng => exact (q _).onVs fun _ _ => .rfl
    case lc => exact (q _).onI fun _ _ => q _
    case bad => exact .rfl
  | exs k ms ρ w =>
    cases ms with
    | nil => exact .rfl
    | cons m r => exact (q _).onV fun _ _ => (q _).onVs fun _ _ => .rfl
  | ts k m ρ w =>
    show Cn (stepT f k ρ w m) (fun n => stepT (g n) k ρ w m)
    cases m <;> simp only [stepT]
    case cmp => exact (q _).onV fun _ _ => (q _).onV fun _ _ => .rfl
    case chain =>
      refine (q _).onV fun _ _ => (q _).onV fun _ _ => ?_
      split
      · exact (q _).onV fun _ _ => .rfl
      · exact .rfl
      · exact .rfl
    case one => exact q _
    case and => exact (q _).onB fun _ _ => .ite (q _) .rfl
    case or => exact (q _).onB fun _ _ => .ite .rfl (q _)
    case not => exact (q _).onB fun _ _ => .rfl
    case ite => exact .rfl
    all_goals exact (q _).onV fun _ _ => .rfl
  | it k i ρ w =>
    show Cn (stepI f k ρ w i) (fun n => stepI (g n) k ρ w i)
    cases i <;> simp only [stepI]
    case of => exact (q _).onV fun _ _ => .rfl
    case range => exact (q _).onVs fun _ _ => .rfl
    case enum => exact (q _).onV fun _ _ => .rfl
    case zip => exact (q _).onV fun _ _ => (q _).onV fun _ _ => .rfl
    case rev => exact (q _).onV fun _ _ => .rfl
  | as k t d ρ w =>
    cases t with
    | name i => exact .rfl
    | tup ts =>
      cases d <;> first | exact .rfl | exact .ite (q _) .rfl
    | sub o i => exact (q _).onV fun _ _ => (q _).onV fun _ _ => .rfl
    | bad => exact .rfl
  | ass k ts ds ρ w =>
    cases ts <;> cases ds <;> first | exact .rfl | exact (q _).onN fun _ _ => q _
  | st k s ρ w =>
    show Cn (stepS f k ρ w s) (fun n => stepS (g n) k ρ w s)
    cases s <;> simp only [stepS]
    case asg => exact (q _).onV fun _ _ => q _
    case par => exact (q _).onVs fun _ _ => .rfl
    case aug =>
      split
      · exact (q _).onV fun _ _ => .rfl
      · exact .rfl
    case expr => exact (q _).onV fun _ _ => .rfl
    case ret => exact (q _).onV fun _ _ => .rfl
    case retN => exact .rfl
    case iff => exact (q _).onB fun _ _ => .ite (q _) (q _)
    case whl => exact q _
    case for_ => exact (q _).onI fun _ _ => q _
    case brk => exact .rfl
    case cont => exact .rfl
    case pass => exact .rfl
    case bad => exact .rfl
  | sts k ss ρ w =>
    cases ss with
    | nil => exact .rfl
    | cons s r => exact (q _).onStmt fun _ _ => q _
  | forL k it i t b ρ w =>
    simp only [step]
    split
    · exact .rfl
    · exact .rfl
    · exact (q _).onN fun _ _ => (q _).onBody fun _ _ => q _
  | whL k t b ρ w => exact (q _).onB fun _ _ => .ite ((q _).onBody fun _ _ => q _) .rfl
  | lcL k it i t ifs elt own n ρ w =>
    simp only [step]
    have tail : ∀ ρ1 h1, Cn (onV (f (.ex k elt ρ1 h1)) fun y h3 => match lstAt h3 n with
        | some acc => if acc.length < line then f (.lcL k it (i + 1) t ifs elt own n ρ (h3.set n (.lst (acc ++ [y])))) else none
        | none => none) (fun N => onV (g N (.ex k elt ρ1 h1)) fun y h3 => match lstAt h3 n with
        | some acc => if acc.length < line then g N (.lcL k it (i + 1) t ifs elt own n ρ (h3.set n (.lst (acc ++ [y])))) else none
        | none => none) := fun ρ1 h1 => (q _).onV fun _ h3 => by
      cases lstAt h3 n with
      | none => exact .rfl
      | some acc => exact .ite (q _) .rfl
    split
    · exact .rfl
    · exact .rfl
    · refine (q _).onN fun _ _ => ?_
      cases ifs with
      | none => exact tail _ _
      | some c => exact (q _).onB fun _ _ => .ite (tail _ _) (q _)
  | call k f' ds w =>
    simp only [step]
    split
    · exact .ite (q _).onDef .rfl
    · exact .rfl
theorem ev_run {T : Tbl} (j : J) (r : R) (h : ev T j = some r) : ∃ n, run T n j = some r := by
  refine ev.partial_correctness T (fun j r => ∃ n, run T n j = some r) (fun f ih j r e => ?_) j r h
  obtain ⟨n, hn⟩ := step_cn T (g := run T) (fun j r e => by
    obtain ⟨n, hn⟩ := ih j r e
    exact ⟨n, fun m hm => run_le hm hn⟩) j r e
  exact ⟨n + 1, hn n (Nat.le_refl _)⟩
end Z
set_option maxHeartbeats 4000000
/-! Z2: how plain data lies in the layer's heap; the operations. -/
namespace Z
open PySem
abbrev V := L2.V
abbrev Hp := L2.Hp
abbrev Frag := PySem.W.Frag
mutual
inductive RD (K : Frag) (α : List Addr) (H : Hp) : D → V → Prop
  | non : RD K α H .non .non
  | bl (b : Bool) : RD K α H (.bl b) (.bl b)
  | int (i : Int) : RD K α H (.int i) (.int i)
  | str (x : Str) : RD K α H (.str x) (.str x)
  | tup {a : Addr} {xs : List V} {ds : List D} : L2.SqT K H a xs → RDs K α H ds xs → RD K α H (.tup ds) (.ref a)
  | ref {n : Nat} {a : Addr} : α[n]? = some a → RD K α H (.ref n) (.ref a)
inductive RDs (K : Frag) (α : List Addr) (H : Hp) : List D → List V → Prop
  | nil : RDs K α H [] []
  | cons {d : D} {v : V} {ds : List D} {vs : List V} : RD K α H d v → RDs K α H ds vs → RDs K α H (d :: ds) (v :: vs)
end
/-- a list of the module's own objects -/
def KL (K : Frag) (a : Addr) (xs : List V) : Prop :=
  ∃ (o : Obj) (its : Array Value) (n : Nat), K.lookup a = some o ∧ o.cls = .type "list" ∧ o.dict = none ∧ o.data = .seq its n ∧ its.size ≤ sizeLine ∧ L2.Vals xs its.toList
def RKv (K : Frag) (α : List Addr) (H : Hp) : List (Key × D) → List (Key × V) → Prop := PySem.Paired fun a b => a.1 = b.1 ∧ RD K α H a.2 b.2
def RO (K : Frag) (α : List Addr) (H : Hp) : O → Addr → Prop
  | .lst xs, p => ∃ vs, H p = some (.lst vs) ∧ RDs K α H xs vs
  | .ro xs, p => ∃ vs, ((∃ ob, H p = some (.frz ob (.lst vs))) ∨ KL K p vs) ∧ RDs K α H xs vs
  | .dK kvs, p => ∃ ws, H p = some (.dK ws) ∧ RKv K α H kvs ws
def isRo : O → Bool
  | .ro _ => true
  | _ => false
/-- α: where the plain heap's objects lie -/
structure RH (K : Frag) (α : List Addr) (h : Hq) (H : Hp) : Prop where
  len : α.length = h.length
  obj : ∀ (n : Nat) (o : O) (p : Addr), h[n]? = some o → α[n]? = some p → RO K α H o p
  nd : ∀ (m n : Nat) (o u : O) (p : Addr), α[m]? = some p → α[n]? = some p → h[m]? = some o → h[n]? = some u → isRo o = false → isRo u = false → m = n
/-- later -/
structure XE (K : Frag) (α : List Addr) (H : Hp) (α' : List Addr) (H' : Hp) : Prop where
  pre : ∃ l, α' = α ++ l
  keep : ∀ a xs, L2.SqT K H a xs → L2.SqT K H' a xs
section
variable {K : Frag} {α α' α'' : List Addr} {H H' H'' : Hp} {h h' : Hq}
theorem XE.refl : XE K α H α H := ⟨⟨[], by simp⟩, fun _ _ e => e⟩
theorem XE.trans (a : XE K α H α' H') (b : XE K α' H' α'' H'') : XE K α H α'' H'' := by
  obtain ⟨l, rfl⟩ := a.pre
  obtain ⟨m, rfl⟩ := b.pre
  exact ⟨⟨l ++ m, by simp⟩, fun _ _ e => b.keep _ _ (a.keep _ _ e)⟩
theorem XE.at (a : XE K α H α' H') {n : Nat} {p : Addr} (e : α[n]? = some p) : α'[n]? = some p := by
  obtain ⟨l, rfl⟩ := a.pre
  rw [List.getElem?_append_left (List.getElem?_eq_some_iff.mp e).1]
  exact e
mutual
theorem RD.mono (x : XE K α H α' H') : ∀ (d : D) (v : V), RD K α H d v → RD K α' H' d v
  | .non, _, r => by cases r; exact .non
  | .bl b, _, r => by cases r; exact .bl b
  | .int i, _, r => by cases r; exact .int i
  | .str z, _, r => by cases r; exact .str z
  | .tup ds, _, r => by cases r with | tup s t => exact .tup (x.keep _ _ s) (RDs.mono x ds _ t)
  | .ref n, _, r => by cases r with | ref e => exact .ref (x.at e)
theorem RDs.mono (x : XE K α H α' H') : ∀ (ds : List D) (vs : List V), RDs K α H ds vs → RDs K α' H' ds vs
  | [], _, r => by cases r; exact .nil
  | d :: ds, _, r => by cases r with | cons a b => exact .cons (RD.mono x d _ a) (RDs.mono x ds _ b)
end
theorem RDs.length : ∀ {ds : List D} {vs : List V}, RDs K α H ds vs → ds.length = vs.length
  | _, _, .nil => rfl
  | _, _, .cons _ t => congrArg (· + 1) (RDs.length t)
theorem RDs.get : ∀ {ds : List D} {vs : List V} {i : Nat} {d : D}, RDs K α H ds vs → ds[i]? = some d → ∃ v, vs[i]? = some v ∧ RD K α H d v
  | _, _, _, _, .nil, e => by simp at e
  | _, _, 0, _, .cons r _, e => by simp at e; subst e; exact ⟨_, rfl, r⟩
  | _, _, i + 1, d, .cons _ t, e => by
    obtain ⟨v, h1, h2⟩ := RDs.get (i := i) (d := d) t (by simpa using e)
    exact ⟨v, by simpa using h1, h2⟩
theorem RDs.got : ∀ {ds : List D} {vs : List V} {i : Nat} {v : V}, RDs K α H ds vs → vs[i]? = some v → ∃ d, ds[i]? = some d ∧ RD K α H d v
  | _, _, _, _, .nil, e => by simp at e
  | _, _, 0, _, .cons r _, e => by simp at e; subst e; exact ⟨_, rfl, r⟩
  | _, _, i + 1, v, .cons _ t, e => by
    obtain ⟨d, h1, h2⟩ := RDs.got (i := i) (v := v) t (by simpa using e)
    exact ⟨d, by simpa using h1, h2⟩
theorem RDs.none : ∀ {ds : List D} {vs : List V} {i : Nat}, RDs K α H ds vs → ds[i]? = Option.none → vs[i]? = Option.none := fun {ds vs i} r e => by
  have h1 := r.length
  have h2 : ds.length ≤ i := List.getElem?_eq_none_iff.mp e
  exact List.getElem?_eq_none_iff.mpr (by omega)
theorem RDs.append : ∀ {ds es : List D} {vs ws : List V}, RDs K α H ds vs → RDs K α H es ws → RDs K α H (ds ++ es) (vs ++ ws)
  | _, _, _, _, .nil, s => s
  | _, _, _, _, .cons r t, s => .cons r (RDs.append t s)
theorem RDs.take : ∀ {ds : List D} {vs : List V} (n : Nat), RDs K α H ds vs → RDs K α H (ds.take n) (vs.take n)
  | _, _, 0, _ => .nil
  | _, _, _ + 1, .nil => .nil
  | _, _, n + 1, .cons r t => .cons r (RDs.take n t)
theorem RDs.drop : ∀ {ds : List D} {vs : List V} (n : Nat), RDs K α H ds vs → RDs K α H (ds.drop n) (vs.drop n)
  | _, _, 0, r => r
  | _, _, _ + 1, .nil => .nil
  | _, _, n + 1, .cons r t => RDs.drop n t
theorem RDs.dropLast : ∀ {ds : List D} {vs : List V}, RDs K α H ds vs → RDs K α H ds.dropLast vs.dropLast
  | _, _, .nil => .nil
  | _, _, .cons _ .nil => .nil
  | _, _, .cons r (.cons r' t) => .cons r (RDs.dropLast (.cons r' t))
theorem RDs.set : ∀ {ds : List D} {vs : List V} {d : D} {v : V} (i : Nat), RD K α H d v → RDs K α H ds vs → RDs K α H (ds.set i d) (vs.set i v)
  | _, _, _, _, _, _, .nil => .nil
  | _, _, _, _, 0, r, .cons _ t => .cons r t
  | _, _, _, _, i + 1, r, .cons q t => .cons q (RDs.set i r t)
theorem RDs.reverse : ∀ {ds : List D} {vs : List V}, RDs K α H ds vs → RDs K α H ds.reverse vs.reverse
  | _, _, .nil => .nil
  | _, _, .cons r t => by rw [List.reverse_cons, List.reverse_cons]; exact (RDs.reverse t).append (.cons r .nil)
theorem RDs.rep {ds : List D} {vs : List V} (r : RDs K α H ds vs) : ∀ n : Nat, RDs K α H (List.replicate n ds).flatten (List.replicate n vs).flatten
  | 0 => .nil
  | n + 1 => by rw [List.replicate_succ, List.replicate_succ, List.flatten_cons, List.flatten_cons]; exact r.append (RDs.rep r n)
theorem RDs.cut {ds : List D} {vs : List V} (r : RDs K α H ds vs) (lo hi : Option Int) : RDs K α H (cut ds lo hi) (L2.cutV vs lo hi) := by
  unfold Z.cut L2.cutV
  rw [r.length]
  exact (r.drop _).take _
theorem RDs.ints : ∀ {ns : List Int}, RDs K α H (ns.map D.int) (ns.map L2.V.int)
  | [] => .nil
  | n :: r => .cons (.int n) RDs.ints
theorem RDs.strs : ∀ {ns : List Str}, RDs K α H (ns.map D.str) (ns.map L2.V.str)
  | [] => .nil
  | n :: r => .cons (.str n) RDs.strs
theorem ints_of : ∀ {ds : List D} {ns : List Int} {vs : List V}, intsOf ds = some ns → RDs K α H ds vs → vs = ns.map L2.V.int
  | [], ns, _, e, r => by cases r; simp [intsOf] at e; subst e; rfl
  | d :: ds, ns, _, e, r => by
    cases r with
    | cons a b =>
      cases d <;> simp [intsOf] at e
      obtain ⟨ms, e1, rfl⟩ := e
      cases a
      rw [ints_of e1 b]; rfl
theorem bols_of : ∀ {ds : List D} {ns : List Bool} {vs : List V}, bolsOf ds = some ns → RDs K α H ds vs → vs = ns.map L2.V.bl
  | [], ns, _, e, r => by cases r; simp [bolsOf] at e; subst e; rfl
  | d :: ds, ns, _, e, r => by
    cases r with
    | cons a b =>
      cases d <;> simp [bolsOf] at e
      obtain ⟨ms, e1, rfl⟩ := e
      cases a
      rw [bols_of e1 b]; rfl
/-! ### the heap grows, is written -/
theorem keep_new {p : Addr} {o : L2.HO} (hp : H p = none) : ∀ a xs, L2.SqT K H a xs → L2.SqT K (L2.upd H p o) a xs := fun a xs s => by
  rcases s with (s | ⟨ob, s⟩) | s
  · exact .inl (.inl (by rw [L2.upd_ne (L2.ne_of_none s hp)]; exact s))
  · exact .inl (.inr ⟨ob, by rw [L2.upd_ne (L2.ne_of_none s hp)]; exact s⟩)
  · exact .inr s
theorem keep_write {p : Addr} {o u : L2.HO} (hp : H p = some u) (h1 : ∀ xs, u ≠ .tup xs) (h2 : ∀ ob w, u ≠ .frz ob w) : ∀ a xs, L2.SqT K H a xs → L2.SqT K (L2.upd H p o) a xs := fun a xs s => by
  rcases s with (s | ⟨ob, s⟩) | s
  · exact .inl (.inl (by rw [L2.upd_ne (L2.ne_of s hp fun e => h1 _ e.symm)]; exact s))
  · exact .inl (.inr ⟨ob, by rw [L2.upd_ne (L2.ne_of s hp fun e => h2 _ _ e.symm)]; exact s⟩)
  · exact .inr s
theorem RKv.mono (x : XE K α H α' H') {kvs : List (Key × D)} {ws : List (Key × V)} (r : RKv K α H kvs ws) : RKv K α' H' kvs ws := L2.Paired.mapP r fun a b q => ⟨q.1, q.2.mono x⟩
/-- an object whose place is kept -/
theorem RO.mono (x : XE K α H α' H') {o : O} {p : Addr} (r : RO K α H o p) (hk : ∀ u, H p = some u → H' p = some u) : RO K α' H' o p := by
  cases o with
  | lst xs => obtain ⟨vs, e, r⟩ := r; exact ⟨vs, hk _ e, r.mono x⟩
  | ro xs =>
    obtain ⟨vs, e, r⟩ := r
    refine ⟨vs, ?_, r.mono x⟩
    rcases e with ⟨ob, e⟩ | e
    · exact .inl ⟨ob, hk _ e⟩
    · exact .inr e
  | dK kvs => obtain ⟨ws, e, r⟩ := r; exact ⟨ws, hk _ e, r.mono x⟩
theorem RH.get (r : RH K α h H) {n : Nat} {o : O} (e : h[n]? = some o) : ∃ p, α[n]? = some p ∧ RO K α H o p := by
  have hn : n < h.length := (List.getElem?_eq_some_iff.mp e).1
  have hn' : n < α.length := by rw [r.len]; exact hn
  exact ⟨α[n], List.getElem?_eq_getElem hn', r.obj n o _ e (List.getElem?_eq_getElem hn')⟩
theorem RO.tracked {o : O} {p : Addr} (r : RO K α H o p) (h : isRo o = false) : ∃ u, H p = some u ∧ (∀ xs, u ≠ .tup xs) ∧ ∀ ob w, u ≠ .frz ob w := by
  cases o with
  | lst xs => obtain ⟨vs, e, r⟩ := r; exact ⟨_, e, (fun _ z => nomatch z), fun _ _ z => nomatch z⟩
  | ro xs => cases h
  | dK kvs => obtain ⟨ws, e, r⟩ := r; exact ⟨_, e, (fun _ z => nomatch z), fun _ _ z => nomatch z⟩
theorem RH.xe (r : RH K α h H) (x : XE K α H α H') (hk : ∀ p u, H p = some u → H' p = some u) : RH K α h H' :=
  ⟨r.len, fun n o p e e' => (r.obj n o p e e').mono x (hk p), r.nd⟩
/-- a new tuple -/
theorem XE.tup {p : Addr} {o : L2.HO} (hp : H p = none) : XE K α H α (L2.upd H p o) := ⟨⟨[], by simp⟩, keep_new hp⟩
theorem RH.tup (r : RH K α h H) {p : Addr} {o : L2.HO} (hp : H p = none) : RH K α h (L2.upd H p o) :=
  r.xe (.tup hp) fun q u e => by rw [L2.upd_ne (L2.ne_of_none e hp)]; exact e
theorem RD.newTup {p : Addr} {ds : List D} {vs : List V} (hp : H p = none) (r : RDs K α H ds vs) : RD K α (L2.upd H p (.tup vs)) (.tup ds) (.ref p) :=
  .tup (.inl (.inl L2.upd_same)) (r.mono (.tup hp) _ _)
/-- a new object -/
theorem XE.obj {p : Addr} {o : L2.HO} (hp : H p = none) : XE K α H (α ++ [p]) (L2.upd H p o) := ⟨⟨[p], rfl⟩, keep_new hp⟩
theorem RH.newO (r : RH K α h H) {p : Addr} {o : O} {u : L2.HO} (hp : H p = none) (ro : RO K (α ++ [p]) (L2.upd H p u) o p) : RH K (α ++ [p]) (h ++ [o]) (L2.upd H p u) := by
  have x : XE K α H (α ++ [p]) (L2.upd H p u) := XE.obj hp
  have kp : ∀ q w, H q = some w → L2.upd H p u q = some w := fun q w e => by rw [L2.upd_ne (L2.ne_of_none e hp)]; exact e
  have hl := r.len
  have old : ∀ (n : Nat) (q : Addr) (ob : O), n < h.length → (α ++ [p])[n]? = some q → (h ++ [o])[n]? = some ob → α[n]? = some q ∧ h[n]? = some ob := fun n q ob hn e1 e2 =>
    ⟨by rw [List.getElem?_append_left (by omega)] at e1; exact e1, by rw [List.getElem?_append_left hn] at e2; exact e2⟩
  have last : ∀ (n : Nat) (q : Addr), ¬ n < h.length → (α ++ [p])[n]? = some q → n = h.length ∧ q = p := fun n q hn e1 => by
    have := (List.getElem?_eq_some_iff.mp e1).1
    rw [List.length_append, List.length_singleton] at this
    have e : n = α.length := by omega
    subst e
    rw [List.getElem?_append_right (Nat.le_refl _), Nat.sub_self] at e1
    exact ⟨hl, (Option.some.inj e1).symm⟩
  refine ⟨by rw [List.length_append, List.length_append, hl]; rfl, fun n ob q e1 e2 => ?_, fun m n ob uu q e1 e2 e3 e4 z1 z2 => ?_⟩
  · by_cases hn : n < h.length
    · obtain ⟨a1, a2⟩ := old n q ob hn e2 e1
      exact (r.obj n ob q a2 a1).mono x (kp q)
    · obtain ⟨rfl, rfl⟩ := last n q hn e2
      rw [List.getElem?_append_right (Nat.le_refl _), Nat.sub_self] at e1
      cases e1
      exact ro
  · by_cases hm : m < h.length <;> by_cases hn : n < h.length
    · obtain ⟨a1, a2⟩ := old m q ob hm e1 e3
      obtain ⟨b1, b2⟩ := old n q uu hn e2 e4
      exact r.nd m n ob uu q a1 b1 a2 b2 z1 z2
    · obtain ⟨a1, a2⟩ := old m q ob hm e1 e3
      obtain ⟨rfl, rfl⟩ := last n q hn e2
      obtain ⟨w, ew, _⟩ := (r.obj m ob q a2 a1).tracked z1
      rw [hp] at ew; cases ew
    · obtain ⟨rfl, rfl⟩ := last m q hm e1
      obtain ⟨b1, b2⟩ := old n q uu hn e2 e4
      obtain ⟨w, ew, _⟩ := (r.obj n uu q b2 b1).tracked z2
      rw [hp] at ew; cases ew
    · obtain ⟨rfl, _⟩ := last m q hm e1
      obtain ⟨rfl, _⟩ := last n q hn e2
      rfl
theorem RH.newL (r : RH K α h H) {p : Addr} {ds : List D} {vs : List V} (hp : H p = none) (rd : RDs K α H ds vs) : RH K (α ++ [p]) (h ++ [.lst ds]) (L2.upd H p (.lst vs)) :=
  r.newO hp ⟨vs, L2.upd_same, rd.mono (.obj hp) _ _⟩
theorem RD.newRef {p : Addr} {o : L2.HO} (r : RH K α h H) : RD K (α ++ [p]) (L2.upd H p o) (.ref h.length) (.ref p) :=
  .ref (by rw [← r.len, List.getElem?_append_right (Nat.le_refl _), Nat.sub_self]; rfl)
/-- an object written -/
theorem RH.write (r : RH K α h H) {n : Nat} {p : Addr} {o o' : O} {u : L2.HO} (e : h[n]? = some o) (ep : α[n]? = some p) (t : isRo o = false) (t' : isRo o' = false) (ro : XE K α H α (L2.upd H p u) → RO K α (L2.upd H p u) o' p) :
    XE K α H α (L2.upd H p u) ∧ RH K α (h.set n o') (L2.upd H p u) := by
  obtain ⟨w, ew, w1, w2⟩ := (r.obj n o p e ep).tracked t
  have x : XE K α H α (L2.upd H p u) := ⟨⟨[], by simp⟩, keep_write ew w1 w2⟩
  have hn : n < h.length := (List.getElem?_eq_some_iff.mp e).1
  refine ⟨x, by rw [List.length_set]; exact r.len, fun m ob q e1 e2 => ?_, fun m k ob uu q e1 e2 e3 e4 z1 z2 => ?_⟩
  · by_cases hm : n = m
    · subst hm
      rw [List.getElem?_set_self hn] at e1
      cases e1
      rw [ep] at e2; cases e2
      exact ro x
    · rw [List.getElem?_set_ne hm] at e1
      have old := r.obj m ob q e1 e2
      by_cases hq : q = p
      · subst hq
        cases ob with
        | lst xs => exact absurd (r.nd n m o _ q ep e2 e e1 t rfl) hm
        | dK xs => exact absurd (r.nd n m o _ q ep e2 e e1 t rfl) hm
        | ro xs =>
          obtain ⟨vs, hv, rr⟩ := old
          refine ⟨vs, ?_, rr.mono x _ _⟩
          rcases hv with ⟨b, hv⟩ | hv
          · rw [ew] at hv; exact absurd (Option.some.inj hv) (w2 _ _)
          · exact .inr hv
      · exact old.mono x fun v ev => by rw [L2.upd_ne hq]; exact ev
  · have tr : ∀ (j : Nat) (x : O), (h.set n o')[j]? = some x → isRo x = false → ∃ y, h[j]? = some y ∧ isRo y = false := fun j x ex tx => by
      by_cases hj : n = j
      · subst hj; exact ⟨o, e, t⟩
      · rw [List.getElem?_set_ne hj] at ex; exact ⟨x, ex, tx⟩
    obtain ⟨y, a1, a2⟩ := tr m ob e3 z1
    obtain ⟨y', b1, b2⟩ := tr k uu e4 z2
    exact r.nd m k y y' q e1 e2 a1 b1 a2 b2
end
end Z
set_option maxHeartbeats 4000000
/-! Z3: the operations over plain data are those of the layer. -/
namespace Z
open PySem L2
abbrev VK' := L2.VK
def Kv (K : Frag) (α : List Addr) (H : Hp) (h' : Hq) (d : D) (Q : L2.VK) : Prop := ∀ α' v H', XE K α H α' H' → RH K α' h' H' → RD K α' H' d v → Q v H'
section
variable {K : Frag} {α : List Addr} {H : Hp} {h h' : Hq}
theorem seq_of (r : RH K α h H) {n : Nat} {ds : List D} (e : seqAt h n = some ds) : ∃ p vs, α[n]? = some p ∧ L2.SqL K H p vs ∧ RDs K α H ds vs := by
  unfold seqAt at e
  split at e
  · rename_i xs hx
    cases e
    obtain ⟨p, hp, vs, hv, rd⟩ := r.get hx
    exact ⟨p, vs, hp, .inl (.inl hv), rd⟩
  · rename_i xs hx
    cases e
    obtain ⟨p, hp, vs, hv, rd⟩ := r.get hx
    refine ⟨p, vs, hp, ?_, rd⟩
    rcases hv with ⟨ob, hv⟩ | hv
    · exact .inl (.inr ⟨ob, hv⟩)
    · exact .inr hv
  · cases e
theorem lst_at {n : Nat} {ds : List D} (e : lstAt h n = some ds) : h[n]? = some (.lst ds) := by
  unfold lstAt at e
  split at e
  · rename_i xs hx; cases e; exact hx
  · cases e
theorem lst_of (r : RH K α h H) {n : Nat} {ds : List D} (e : lstAt h n = some ds) : ∃ p vs, α[n]? = some p ∧ H p = some (.lst vs) ∧ RDs K α H ds vs := by
  obtain ⟨p, hp, vs, hv, rd⟩ := r.get (lst_at e)
  exact ⟨p, vs, hp, hv, rd⟩
theorem seq_lst {n : Nat} {ds : List D} (e : lstAt h n = some ds) : seqAt h n = some ds := by
  unfold seqAt
  rw [lst_at e]
/-- a reference lies at its place -/
theorem RD.place {n : Nat} {v : V} {p : Addr} (r : RD K α H (.ref n) v) (e : α[n]? = some p) : v = .ref p := by
  cases r with
  | ref e' => rw [e'] at e; cases e; rfl
theorem dpAll_of {f : D → Option PyData} : ∀ {ds : List D} {vs : List V} {ps : List PyData}, (∀ d v p, d ∈ ds → RD K α H d v → f d = some p → L2.Dp K H v p) → RDs K α H ds vs → mapO f ds = some ps → L2.DpAll K H vs ps
  | [], _, _, _, r, e => by cases r; simp [mapO] at e; subst e; exact .nil
  | d :: ds, _, ps, k, r, e => by
    cases r with
    | cons a b =>
      unfold mapO at e
      split at e
      · rename_i x xs h1 h2
        cases e
        exact .cons (k d _ _ List.mem_cons_self a h1) (dpAll_of (fun d v p hd => k d v p (List.mem_cons_of_mem _ hd)) b h2)
      · cases e
theorem dp_of (r : RH K α h H) : ∀ (n : Nat) (d : D) (v : V) (p : PyData), RD K α H d v → toPy h n d = some p → L2.Dp K H v p
  | 0, d, _, _, _, e => by cases d <;> simp [toPy] at e
  | n + 1, .non, _, _, a, e => by cases a; simp [toPy] at e; subst e; exact .non
  | n + 1, .bl b, _, _, a, e => by cases a; simp [toPy] at e; subst e; exact .bl b
  | n + 1, .int i, _, _, a, e => by cases a; simp [toPy] at e; subst e; exact .int i
  | n + 1, .str z, _, _, a, e => by cases a; simp [toPy] at e; subst e; exact .str z
  | n + 1, .tup ds, _, _, a, e => by
    cases a with
    | tup s t =>
      simp only [toPy, Option.map_eq_some_iff] at e
      obtain ⟨ps, e1, rfl⟩ := e
      exact .tup s (dpAll_of (fun d v p _ => dp_of r n d v p) t e1)
  | n + 1, .ref m, _, _, a, e => by
    cases a with
    | ref ea =>
      unfold toPy at e
      split at e
      · rename_i xs hx
        simp only [Option.map_eq_some_iff] at e
        obtain ⟨ps, e1, rfl⟩ := e
        obtain ⟨q, vs, hq, hs, rd⟩ := seq_of r (show seqAt h m = some xs by unfold seqAt; rw [hx])
        rw [ea] at hq; cases hq
        exact .lst hs (dpAll_of (fun d v p _ => dp_of r n d v p) rd e1)
      · rename_i xs hx
        simp only [Option.map_eq_some_iff] at e
        obtain ⟨ps, e1, rfl⟩ := e
        obtain ⟨q, vs, hq, hs, rd⟩ := seq_of r (show seqAt h m = some xs by unfold seqAt; rw [hx])
        rw [ea] at hq; cases hq
        exact .lst hs (dpAll_of (fun d v p _ => dp_of r n d v p) rd e1)
      · cases e
theorem py_of (r : RH K α h H) {d : D} {v : V} {p : PyData} (a : RD K α H d v) (e : py h d = some p) : L2.Dp K H v p ∧ SeqAt.shaped p = true := by
  unfold py at e
  split at e
  · rename_i q hq
    split at e
    · rename_i hs
      cases e
      exact ⟨dp_of r _ d v _ a hq, hs⟩
    · cases e
  · cases e
/-- what becomes of a new object -/
theorem Kv.newL {ds : List D} {vs : List V} {Q : L2.VK} {d : D} (r : RH K α h H) (rd : RDs K α H ds vs) (e : new h (.lst ds) = some (d, h')) (k : Kv K α H h' d Q) : ∀ p, H p = none → Q (.ref p) (L2.upd H p (.lst vs)) := fun p hp => by
  cases e
  exact k _ _ _ (.obj hp) (r.newL hp rd) (.newRef r)
theorem Kv.newT {ds : List D} {vs : List V} {Q : L2.VK} (r : RH K α h H) (rd : RDs K α H ds vs) (k : Kv K α H h (.tup ds) Q) : ∀ p, H p = none → Q (.ref p) (L2.upd H p (.tup vs)) := fun p hp =>
  k _ _ _ (.tup hp) (r.tup hp) (.newTup hp rd)
theorem Kv.here {v : V} {d : D} {Q : L2.VK} (r : RH K α h H) (rd : RD K α H d v) (k : Kv K α H h d Q) : Q v H := k _ _ _ .refl r rd
theorem RD.tup' {ds : List D} {v : V} (r : RD K α H (.tup ds) v) : ∃ a vs, v = .ref a ∧ L2.SqT K H a vs ∧ RDs K α H ds vs := by
  cases r with | tup s t => exact ⟨_, _, rfl, s, t⟩
theorem RD.ref' {n : Nat} {v : V} (r : RD K α H (.ref n) v) : ∃ a, v = .ref a ∧ α[n]? = some a := by
  cases r with | ref s => exact ⟨_, rfl, s⟩
theorem line_eq : line = sizeLine := sizeLine_eq.symm
end

def opOf : Op → Operator
  | .add => .Add | .sub => .Sub | .mul => .Mult | .mod => .Mod | .fdiv => .FloorDiv | .pow => .Pow
def cpOf : Cp → CmpOp
  | .eq => .Eq | .ne => .NotEq | .lt => .Lt | .le => .LtE | .gt => .Gt | .ge => .GtE | .isIn => .In | .notIn => .NotIn | .is => .Is | .isnt => .IsNot
/-- what an operation on two values asks -/
def Op2 (X : L2.Cx) (f : Value → Value → Sem Value) (x y : D) (h : Hq) (d : D) (h' : Hq) : Prop :=
  ∃ r : L2.R2, L2.OpR X f r ∧ ∀ (α : List Addr) (H : Hp) (v u : V) (Q : L2.VK), RH X.K α h H → RD X.K α H x v → RD X.K α H y u → Kv X.K α H h' d Q → r v u H Q
section
variable {X : L2.Cx} {h h' : Hq} {x y d : D}
theorem binop_ok {o : Op} (e : binop o x y h = some (d, h')) : Op2 X (binaryOp (opOf o)) x y h d h' := by
  unfold binop at e
  split at e
  · cases e; exact ⟨_, L2.op_add, fun α H v u Q r a b k => by cases a; cases b; exact ⟨_, _, rfl, rfl, k.here r (.int _)⟩⟩
  · rename_i a b
    split at e
    · rename_i hl
      cases e
      exact ⟨_, L2.op_add_str, fun α H v u Q r a b k => by cases a; cases b; exact ⟨_, _, rfl, rfl, by rw [← line_eq]; exact hl, k.here r (.str _)⟩⟩
    · cases e
  · rename_i a b
    split at e
    · rename_i hl
      cases e
      refine ⟨_, L2.op_catA, fun α H v u Q r x y k => ?_⟩
      obtain ⟨p, xs, rfl, s1, r1⟩ := x.tup'
      obtain ⟨q, ys, rfl, s2, r2⟩ := y.tup'
      refine ⟨p, q, xs, ys, rfl, rfl, s1, s2, by rw [← line_eq, ← r1.length, ← r2.length]; exact hl, fun z => ?_, fun _ z => ?_, fun _ _ => k.newT r (r1.append r2)⟩
      · subst z; cases r1; exact k.here r (.tup s2 r2)
      · subst z; cases r2; rw [List.append_nil] at k; exact k.here r (.tup s1 r1)
    · cases e
  · rename_i m n
    split at e
    · rename_i a b ha hb
      split at e
      · rename_i hl
        refine ⟨_, L2.op_cat, fun α H v u Q r x y k => ?_⟩
        obtain ⟨p, vs, hp, hv, r1⟩ := lst_of r ha
        obtain ⟨q, ws, hq, hw, r2⟩ := lst_of r hb
        rw [x.place hp, y.place hq]
        exact ⟨p, q, vs, ws, rfl, rfl, hv, hw, by rw [← line_eq, ← r1.length, ← r2.length]; exact hl, Kv.newL r (r1.append r2) e k⟩
      · cases e
    · cases e
  · cases e; exact ⟨_, L2.op_sub, fun α H v u Q r a b k => by cases a; cases b; exact ⟨_, _, rfl, rfl, k.here r (.int _)⟩⟩
  · split at e
    · rename_i hl
      cases e; exact ⟨_, L2.op_mulW, fun α H v u Q r a b k => by cases a; cases b; exact ⟨_, _, rfl, rfl, hl, k.here r (.int _)⟩⟩
    · cases e
  · split at e
    · rename_i a ha
      split at e
      · rename_i hl
        refine ⟨_, L2.op_rep, fun α H v u Q r x y k => ?_⟩
        obtain ⟨p, vs, hp, hv, r1⟩ := lst_of r ha
        rw [x.place hp]
        cases y
        exact ⟨p, _, vs, rfl, rfl, hv, hl.1, hl.2.1, by rw [← line_eq, ← r1.length]; exact hl.2.2, Kv.newL r (r1.rep _) e k⟩
      · cases e
    · cases e
  · split at e
    · rename_i hl
      cases e; exact ⟨_, L2.op_mod, fun α H v u Q r a b k => by cases a; cases b; exact ⟨_, _, rfl, rfl, hl, k.here r (.int _)⟩⟩
    · cases e
  · split at e
    · rename_i hl
      cases e; exact ⟨_, L2.op_fdivW, fun α H v u Q r a b k => by cases a; cases b; exact ⟨_, _, rfl, rfl, hl, k.here r (.int _)⟩⟩
    · cases e
  · split at e
    · rename_i hl
      cases e; exact ⟨_, L2.op_pow, fun α H v u Q r a b k => by cases a; cases b; exact ⟨_, _, rfl, rfl, hl, k.here r (.int _)⟩⟩
    · cases e
  · cases e
theorem flat_V {K : Frag} {α : List Addr} {H : Hp} {d : D} {v : V} (r : RD K α H d v) (f : flat d = true) : L2.flatV v = true := by
  cases r <;> first | rfl | cases f
theorem flat_all {K : Frag} {α : List Addr} {H : Hp} : ∀ {ds : List D} {vs : List V}, RDs K α H ds vs → ds.all flat = true → vs.all L2.flatV = true
  | _, _, .nil, _ => rfl
  | _, _, .cons a b, f => by
    rw [List.all_cons, Bool.and_eq_true] at f ⊢
    exact ⟨flat_V a f.1, flat_all b f.2⟩
theorem flat_eq {K : Frag} {α : List Addr} {H : Hp} {x y : D} {v u : V} (a : RD K α H x v) (b : RD K α H y u) (f : flat x = true) (g : flat y = true) : L2.eqV v u = flatEq x y := by
  cases a <;> first | cases f | skip
  all_goals (cases b <;> first | cases g | skip)
  all_goals first | rfl | (simp [L2.eqV, flatEq]) | (rename_i p q; cases p <;> cases q <;> rfl) | (rename_i p q; cases p <;> rfl) | (rename_i p q; cases q <;> rfl)
theorem any_eq {K : Frag} {α : List Addr} {H : Hp} {x : D} {v : V} (a : RD K α H x v) (f : flat x = true) : ∀ {ds : List D} {vs : List V}, RDs K α H ds vs → ds.all flat = true → L2.inV v vs = ds.any fun z => flatEq z x
  | _, _, .nil, _ => rfl
  | _, _, .cons b c, g => by
    rw [List.all_cons, Bool.and_eq_true] at g
    have ih := any_eq a f c g.2
    unfold L2.inV at ih ⊢
    rw [List.any_cons, List.any_cons, flat_eq b a g.1 f, ih]

theorem bl?_eq {x : D} {b : Bool} (e : bl? x = some b) : x = .bl b := by cases x <;> simp [bl?] at e; rw [e]
theorem int?_eq {x : D} {b : Int} (e : int? x = some b) : x = .int b := by cases x <;> simp [int?] at e; rw [e]
theorem key_of {K : Frag} {α : List Addr} {H : Hp} {x : D} {k : Key} {v : V} (e : keyOf x = some k) (r : RD K α H x v) : v = L2.kV k := by
  cases r <;> simp [keyOf] at e <;> subst e <;> rfl
theorem RKv.getK {K : Frag} {α : List Addr} {H : Hp} (k : Key) : ∀ {kvs : List (Key × D)} {ws : List (Key × V)}, RKv K α H kvs ws → match getK kvs k, L2.valV ws k with
    | some d, some v => RD K α H d v
    | none, none => True
    | _, _ => False
  | _, _, .nil => by simp [Z.getK, L2.valV]
  | (a, d) :: kvs, (b, v) :: ws, .cons q t => by
    obtain ⟨q1, q2⟩ := q
    have q1 : a = b := q1
    subst q1
    have ih := RKv.getK k t
    by_cases e : a = k
    · simp [Z.getK, L2.valV, List.find?_cons, e]; exact q2
    · simp only [Z.getK, L2.valV, List.find?_cons, decide_eq_false e] at ih ⊢; exact ih
theorem RKv.any {K : Frag} {α : List Addr} {H : Hp} (k : Key) : ∀ {kvs : List (Key × D)} {ws : List (Key × V)}, RKv K α H kvs ws → (kvs.any fun kv => decide (kv.1 = k)) = ws.any fun kv => decide (kv.1 = k)
  | _, _, .nil => rfl
  | _ :: _, _ :: _, .cons q t => by
    rw [List.any_cons, List.any_cons, q.1, RKv.any k t]
theorem RKv.map {K : Frag} {α : List Addr} {H : Hp} {k : Key} {d : D} {v : V} (r : RD K α H d v) : ∀ {kvs : List (Key × D)} {ws : List (Key × V)}, RKv K α H kvs ws →
    RKv K α H (kvs.map fun kv => if kv.1 = k then (kv.1, d) else kv) (ws.map fun kv => if kv.1 = k then (kv.1, v) else kv)
  | _, _, .nil => .nil
  | (a, x) :: kvs, (b, y) :: ws, .cons q t => by
    have q1 : a = b := q.1
    subst q1
    rw [List.map_cons, List.map_cons]
    refine .cons ?_ (RKv.map r t)
    by_cases e : a = k
    · rw [if_pos e, if_pos e]; exact ⟨rfl, r⟩
    · rw [if_neg e, if_neg e]; exact q
theorem RKv.app {K : Frag} {α : List Addr} {H : Hp} {k : Key} {d : D} {v : V} (r : RD K α H d v) : ∀ {kvs : List (Key × D)} {ws : List (Key × V)}, RKv K α H kvs ws → RKv K α H (kvs ++ [(k, d)]) (ws ++ [(k, v)])
  | _, _, .nil => .cons ⟨rfl, r⟩ .nil
  | _ :: _, _ :: _, .cons q t => .cons q (RKv.app r t)
theorem RKv.putK {K : Frag} {α : List Addr} {H : Hp} {k : Key} {d : D} {v : V} {kvs : List (Key × D)} {ws : List (Key × V)} (r : RD K α H d v) (q : RKv K α H kvs ws) : RKv K α H (putK kvs k d) (L2.putK ws k v) := by
  unfold Z.putK L2.putK
  rw [q.any k]
  by_cases e : (ws.any fun kv => decide (kv.1 = k)) = true
  · rw [if_pos e, if_pos e]; exact q.map r
  · rw [if_neg e, if_neg e]; exact q.app r
theorem RKv.length {K : Frag} {α : List Addr} {H : Hp} {kvs : List (Key × D)} {ws : List (Key × V)} (q : RKv K α H kvs ws) : kvs.length = ws.length := PySem.Paired.length q
theorem dK_of {K : Frag} {α : List Addr} {H : Hp} {h : Hq} (r : RH K α h H) {n : Nat} {kvs : List (Key × D)} (e : h[n]? = some (.dK kvs)) : ∃ p ws, α[n]? = some p ∧ H p = some (.dK ws) ∧ RKv K α H kvs ws := by
  obtain ⟨p, hp, ws, hv, rd⟩ := r.get e
  exact ⟨p, ws, hp, hv, rd⟩
/-! ### dicts by values -/
theorem op_dIn (hu : X.A.units + 1 < cLine) : L2.OpR X (compareOp .In) (fun x y H Q => ∃ a o, y = .ref a ∧ L2.DGet H a x o ∧ Q (.bl o.isSome) H) := by
  intro pins s σ H x y v u Q I rx ry h
  obtain ⟨a, o, rfl, g, q⟩ := h
  cases ry
  exact L2.d_in hu I g rx fun s' I' => ⟨.bl o.isSome, H, I', rfl, q⟩
theorem op_dNotIn (hu : X.A.units + 1 < cLine) : L2.OpR X (compareOp .NotIn) (fun x y H Q => ∃ a o, y = .ref a ∧ L2.DGet H a x o ∧ Q (.bl (!o.isSome)) H) := by
  intro pins s σ H x y v u Q I rx ry h
  obtain ⟨a, o, rfl, g, q⟩ := h
  cases ry
  exact L2.d_notIn hu I g rx fun s' I' => ⟨.bl (!o.isSome), H, I', rfl, q⟩
theorem ix_dict (hu : X.A.units + 1 < cLine) : L2.IxR X (fun x y H Q => ∃ a v, x = .ref a ∧ L2.DGet H a y (some v) ∧ Q v H) := by
  intro value slice pins s σ H x y v u Q I rx ry h hs
  obtain ⟨a, w, rfl, g, q⟩ := h
  cases rx
  exact PyProof.Rows.tail_any (L2.dict_typeIs I g) PySem.F.slot_dict_getitem.lookup (L2.d_getItem hu I g ry fun w' s' I' r' => ⟨w, H, I', r', q⟩) hs
theorem set_dict (hu : X.A.units + 1 < cLine) : L2.PSet X (fun o i v H Q => ∃ a H', o = .ref a ∧ L2.DPut H a i v H' ∧ Q H') := by
  intro pins s σ H o i v ov iv u Q I ro ri rv h
  obtain ⟨a, H', rfl, g, q⟩ := h
  cases ro
  exact L2.d_setItem hu I g ri rv fun s' I' => ⟨H', I', q⟩
/-- comparisons -/
def Cmp2 (X : L2.Cx) (c : CmpOp) (x y : D) (h : Hq) (b : Bool) : Prop :=
  ∃ r : L2.R2, L2.OpR X (compareOp c) r ∧ ∀ (α : List Addr) (H : Hp) (v u : V) (Q : L2.VK), RH X.K α h H → RD X.K α H x v → RD X.K α H y u → Q (.bl b) H → r v u H Q
theorem in_ok (hu : X.A.units + 66 < cLine) {b : Bool} (e : isInD x y h = some b) : Cmp2 X .In x y h b ∧ Cmp2 X .NotIn x y h (!b) := by
  unfold isInD at e
  split at e
  · rename_i ds
    split at e
    · rename_i hf
      rw [Bool.and_eq_true] at hf
      cases e
      refine ⟨⟨_, L2.op_in_seq, fun α H v u Q r a c k => ?_⟩, ⟨_, L2.op_notIn_seq, fun α H v u Q r a c k => ?_⟩⟩
      all_goals
        obtain ⟨p, xs, rfl, s1, r1⟩ := c.tup'
        refine ⟨p, xs, rfl, .inr s1, flat_V a hf.1, flat_all r1 hf.2, ?_⟩
        rw [any_eq a hf.1 r1 hf.2]
        exact k
    · cases e
  · rename_i n
    split at e
    · rename_i kvs hx
      simp only [Option.map_eq_some_iff] at e
      obtain ⟨k, e1, e2⟩ := e
      have key : ∀ (α : List Addr) (H : Hp) (v u : V), RH X.K α h H → RD X.K α H x v → RD X.K α H (.ref n) u → ∃ a o, u = .ref a ∧ L2.DGet H a v o ∧ o.isSome = b := fun α H v u r a c => by
        obtain ⟨p, ws, hp, hv, r1⟩ := dK_of r hx
        rw [c.place hp]
        refine ⟨p, L2.valV ws k, rfl, by rw [key_of e1 a]; exact .k hv, ?_⟩
        have q := r1.getK k
        rw [← e2]
        revert q
        cases getK kvs k <;> cases L2.valV ws k <;> simp
      refine ⟨⟨_, op_dIn (by omega), fun α H v u Q r a c q => ?_⟩, ⟨_, op_dNotIn (by omega), fun α H v u Q r a c q => ?_⟩⟩
      all_goals
        obtain ⟨p, o, z1, z2, z3⟩ := key α H v u r a c
        exact ⟨p, o, z1, z2, by rw [z3]; exact q⟩
    · rename_i ds hx
      have hs : seqAt h n = some ds := by unfold seqAt; rw [hx]
      split at e
      · rename_i hf
        rw [Bool.and_eq_true] at hf
        cases e
        refine ⟨⟨_, L2.op_in_seq, fun α H v u Q r a c k => ?_⟩, ⟨_, L2.op_notIn_seq, fun α H v u Q r a c k => ?_⟩⟩
        all_goals
          obtain ⟨p, xs, hp, s1, r1⟩ := seq_of r hs
          rw [c.place hp]
          refine ⟨p, xs, rfl, .inl s1, flat_V a hf.1, flat_all r1 hf.2, ?_⟩
          rw [any_eq a hf.1 r1 hf.2]
          exact k
      · split at e
        · rename_i a bs ha hb
          cases e
          refine ⟨⟨_, L2.op_inD (by omega), fun α H v u Q r a' c k => ?_⟩, ⟨_, L2.op_notInD (by omega), fun α H v u Q r a' c k => ?_⟩⟩
          all_goals
            obtain ⟨d1, s1⟩ := py_of r a' ha
            obtain ⟨d2, s2⟩ := py_of r c hb
            exact ⟨a, bs, d1, d2, s1, s2, k⟩
        · cases e
    · rename_i ds hx
      have hs : seqAt h n = some ds := by unfold seqAt; rw [hx]
      split at e
      · rename_i hf
        rw [Bool.and_eq_true] at hf
        cases e
        refine ⟨⟨_, L2.op_in_seq, fun α H v u Q r a c k => ?_⟩, ⟨_, L2.op_notIn_seq, fun α H v u Q r a c k => ?_⟩⟩
        all_goals
          obtain ⟨p, xs, hp, s1, r1⟩ := seq_of r hs
          rw [c.place hp]
          refine ⟨p, xs, rfl, .inl s1, flat_V a hf.1, flat_all r1 hf.2, ?_⟩
          rw [any_eq a hf.1 r1 hf.2]
          exact k
      · cases e
    · cases e
  · rename_i z
    split at e
    · cases e
      refine ⟨⟨_, L2.op_in_str, fun α H v u Q r a c k => ?_⟩, ⟨_, L2.op_notin_str, fun α H v u Q r a c k => ?_⟩⟩
      all_goals
        cases a; cases c
        exact ⟨_, _, rfl, rfl, k⟩
    · cases e
  · cases e
theorem tup_ints {K : Frag} {α : List Addr} {H : Hp} {ds : List D} {ns : List Int} {v : V} (r : RD K α H (.tup ds) v) (e : intsOf ds = some ns) : ∃ a, v = .ref a ∧ L2.SqT K H a (ns.map L2.V.int) := by
  obtain ⟨a, vs, rfl, s, t⟩ := r.tup'
  exact ⟨a, rfl, by rw [← ints_of e t]; exact s⟩
theorem cmpop_ok {c : Cp} (hu : X.A.units + 66 < cLine) {b : Bool} (e : cmpop c x y h = some b) : Cmp2 X (cpOf c) x y h b := by
  unfold cmpop at e
  split at e
  · split at e
    · cases e
      refine ⟨_, L2.op_eq, fun α H v u Q r a c k => ?_⟩
      cases a; cases c
      exact ⟨rfl, by simpa using k⟩
    · cases e
      refine ⟨_, L2.op_eq, fun α H v u Q r a c k => ?_⟩
      cases a; cases c
      exact ⟨rfl, by simpa using k⟩
    · split at e
      · rename_i p q hp hq
        cases e
        refine ⟨_, L2.op_eqD (by omega), fun α H v u Q r a c k => ?_⟩
        obtain ⟨d1, s1⟩ := py_of r a hp
        obtain ⟨d2, s2⟩ := py_of r c hq
        exact ⟨p, q, d1, d2, s1, s2, k⟩
      · cases e
  · split at e
    · cases e
      refine ⟨_, L2.op_ne, fun α H v u Q r a c k => ?_⟩
      cases a; cases c
      exact ⟨rfl, by simpa using k⟩
    · cases e
      refine ⟨_, L2.op_ne, fun α H v u Q r a c k => ?_⟩
      cases a; cases c
      exact ⟨rfl, by simpa using k⟩
    · split at e
      · rename_i p q hp hq
        cases e
        refine ⟨_, L2.op_neD (by omega), fun α H v u Q r a c k => ?_⟩
        obtain ⟨d1, s1⟩ := py_of r a hp
        obtain ⟨d2, s2⟩ := py_of r c hq
        exact ⟨p, q, d1, d2, s1, s2, k⟩
      · cases e
  · split at e
    · cases e; exact ⟨_, L2.op_lt, fun α H v u Q r a c k => by cases a; cases c; exact ⟨_, _, rfl, rfl, k⟩⟩
    · split at e
      · rename_i ns ms hn hm
        cases e
        refine ⟨_, L2.op_ltT (by omega), fun α H v u Q r a c k => ?_⟩
        obtain ⟨p, rfl, s1⟩ := tup_ints a hn
        obtain ⟨q, rfl, s2⟩ := tup_ints c hm
        exact ⟨p, q, ns, ms, rfl, rfl, s1, s2, k⟩
      · cases e
    · cases e
  · split at e
    · cases e; exact ⟨_, L2.op_le, fun α H v u Q r a c k => by cases a; cases c; exact ⟨_, _, rfl, rfl, k⟩⟩
    · cases e
  · split at e
    · cases e; exact ⟨_, L2.op_gt, fun α H v u Q r a c k => by cases a; cases c; exact ⟨_, _, rfl, rfl, k⟩⟩
    · cases e
  · split at e
    · cases e; exact ⟨_, L2.op_ge, fun α H v u Q r a c k => by cases a; cases c; exact ⟨_, _, rfl, rfl, k⟩⟩
    · cases e
  · exact (in_ok hu e).1
  · simp only [Option.map_eq_some_iff] at e
    obtain ⟨k, e1, rfl⟩ := e
    exact (in_ok hu e1).2
  · split at e
    · cases e; exact ⟨_, L2.op_is_bl, fun α H v u Q r a c k => by cases a; cases c; exact ⟨_, _, rfl, rfl, k⟩⟩
    · cases e
      refine ⟨_, L2.op_isN, fun α H v u Q r a c k => ?_⟩
      cases c
      refine ⟨rfl, ?_⟩
      cases a <;> exact k
    · cases e
  · split at e
    · cases e; exact ⟨_, L2.op_isnot_bl, fun α H v u Q r a c k => by cases a; cases c; exact ⟨_, _, rfl, rfl, k⟩⟩
    · cases e
      refine ⟨_, L2.op_notN, fun α H v u Q r a c k => ?_⟩
      cases c
      refine ⟨rfl, ?_⟩
      cases a <;> exact k
    · cases e
end
end Z
set_option maxHeartbeats 4000000
/-! Z4: subscripts, slices, built-ins, methods, stores over plain data. -/
namespace Z
open PySem L2
section
variable {X : L2.Cx} {h h' : Hq} {x y d : D}
theorem atI_of {K : Frag} {α : List Addr} {H : Hp} {ds : List D} {vs : List V} {j : Int} {d : D} (r : RDs K α H ds vs) (e : L2.atI ds j = some d) : ∃ v, L2.atI vs j = some v ∧ RD K α H d v := by
  unfold L2.atI at e ⊢
  rw [← r.length]
  cases hi : L2.ixN ds.length j with
  | none => rw [hi] at e; cases e
  | some i =>
    rw [hi] at e
    obtain ⟨v, h1, h2⟩ := r.get (i := i) (d := d) e
    exact ⟨v, h1, h2⟩
theorem ix_ok (hu : X.A.units + 66 < cLine) {i : D} (e : ixD x i h = some d) : ∃ r : L2.R2, L2.IxR X r ∧ ∀ (α : List Addr) (H : Hp) (v u : V) (Q : L2.VK), RH X.K α h H → RD X.K α H x v → RD X.K α H i u → Kv X.K α H h d Q → r v u H Q := by
  cases x
  case tup ds =>
    cases i <;> simp only [ixD] at e <;> try cases e
    rename_i j
    refine ⟨_, L2.ix_tup, fun α H v u Q r a c k => ?_⟩
    obtain ⟨p, vs, rfl, s, t⟩ := a.tup'
    cases c
    obtain ⟨w, h1, h2⟩ := atI_of t e
    exact ⟨p, vs, _, w, rfl, rfl, s, h1, k.here r h2⟩
  case ref n =>
    simp only [ixD] at e
    have lists : ∀ ds, seqAt h n = some ds → ∀ j, i = .int j → L2.atI ds j = some d → ∃ r : L2.R2, L2.IxR X r ∧ ∀ (α : List Addr) (H : Hp) (v u : V) (Q : L2.VK), RH X.K α h H → RD X.K α H (.ref n) v → RD X.K α H i u → Kv X.K α H h d Q → r v u H Q := fun ds hs j hj e5 => by
      subst hj
      refine ⟨_, L2.ix_list, fun α H v u Q r a c k => ?_⟩
      obtain ⟨p, vs, hp, s, t⟩ := seq_of r hs
      rw [a.place hp]
      cases c
      obtain ⟨w, h1, h2⟩ := atI_of t e5
      exact ⟨p, vs, _, w, rfl, rfl, s, h1, k.here r h2⟩
    split at e
    · rename_i kvs hx
      obtain ⟨k, e1, e2⟩ := Option.bind_eq_some_iff.mp e
      refine ⟨_, ix_dict (by omega), fun α H v u Q r a c q => ?_⟩
      obtain ⟨p, ws, hp, hv, r1⟩ := dK_of r hx
      rw [a.place hp]
      have z := r1.getK k
      rw [e2] at z
      cases hw : L2.valV ws k with
      | none => rw [hw] at z; exact z.elim
      | some w =>
        rw [hw] at z
        refine ⟨p, w, rfl, ?_, q.here r z⟩
        rw [key_of e1 c, ← hw]
        exact .k hv
    · rename_i ds hx
      obtain ⟨j, e1, e2⟩ := Option.bind_eq_some_iff.mp e
      exact lists ds (by unfold seqAt; rw [hx]) j (int?_eq e1) e2
    · rename_i ds hx
      obtain ⟨j, e1, e2⟩ := Option.bind_eq_some_iff.mp e
      exact lists ds (by unfold seqAt; rw [hx]) j (int?_eq e1) e2
    · cases e
  case str z =>
    cases i <;> simp only [ixD] at e <;> try cases e
    rename_i j
    split at e
    · rename_i hl
      simp only [Option.map_eq_some_iff] at e
      obtain ⟨c, e1, rfl⟩ := e
      refine ⟨_, L2.ix_str, fun α H v u Q r a c' k => ?_⟩
      cases a; cases c'
      exact ⟨_, _, c, rfl, rfl, by rw [← line_eq]; exact hl, e1, k.here r (.str _)⟩
    · cases e
  all_goals (simp only [ixD] at e; cases e)
/-- a slice -/
theorem sl_ok {lo hi : Option Int} (e : slD x lo hi h = some (d, h')) : ∃ r : V → Option Int → Option Int → Hp → L2.VK → Prop, L2.SlR X r ∧ ∀ (α : List Addr) (H : Hp) (v : V) (Q : L2.VK), RH X.K α h H → RD X.K α H x v → Kv X.K α H h' d Q → r v lo hi H Q := by
  unfold slD at e
  split at e
  · rename_i ds
    cases e
    refine ⟨_, L2.sl_tupA, fun α H v Q r a k => ?_⟩
    obtain ⟨p, vs, rfl, s, t⟩ := a.tup'
    refine ⟨p, vs, rfl, s, fun z => ?_, fun _ => k.newT r (t.cut lo hi)⟩
    have : cut ds lo hi = ds := by
      unfold cut
      rw [t.length, z.1, z.2, List.drop_zero, Nat.sub_zero, ← t.length, List.take_length]
    rw [this] at k
    exact k.here r (.tup s t)
  · rename_i n
    obtain ⟨ds, e1, e2⟩ := Option.bind_eq_some_iff.mp e
    refine ⟨_, L2.sl_list, fun α H v Q r a k => ?_⟩
    obtain ⟨p, vs, hp, s, t⟩ := seq_of r e1
    rw [a.place hp]
    exact ⟨p, vs, rfl, s, Kv.newL r (t.cut lo hi) e2 k⟩
  · cases e
theorem maxI_spec : ∀ (i : Int) (r : List Int), maxI (i :: r) ∈ i :: r ∧ ∀ y ∈ i :: r, y ≤ maxI (i :: r)
  | i, [] => by simp [maxI]
  | i, j :: r => by
    obtain ⟨h1, h2⟩ := maxI_spec j r
    show max i (maxI (j :: r)) ∈ _ ∧ ∀ y ∈ _, y ≤ max i (maxI (j :: r))
    refine ⟨?_, fun y hy => ?_⟩
    · rcases Int.le_total i (maxI (j :: r)) with z | z
      · rw [Int.max_eq_right z]; exact List.mem_cons_of_mem _ h1
      · rw [Int.max_eq_left z]; exact List.mem_cons_self
    · rcases List.mem_cons.mp hy with e | e
      · subst e; exact Int.le_max_left _ _
      · exact Int.le_trans (h2 y e) (Int.le_max_right _ _)
theorem minI_spec : ∀ (i : Int) (r : List Int), minI (i :: r) ∈ i :: r ∧ ∀ y ∈ i :: r, minI (i :: r) ≤ y
  | i, [] => by simp [minI]
  | i, j :: r => by
    obtain ⟨h1, h2⟩ := minI_spec j r
    show min i (minI (j :: r)) ∈ _ ∧ ∀ y ∈ _, min i (minI (j :: r)) ≤ y
    refine ⟨?_, fun y hy => ?_⟩
    · rcases Int.le_total i (minI (j :: r)) with z | z
      · rw [Int.min_eq_left z]; exact List.mem_cons_self
      · rw [Int.min_eq_right z]; exact List.mem_cons_of_mem _ h1
    · rcases List.mem_cons.mp hy with e | e
      · subst e; exact Int.min_le_left _ _
      · exact Int.le_trans (Int.min_le_right _ _) (h2 y e)
/-- repr of data -/
theorem call_reprD (hg : X.A.guards = some []) (hu : X.A.units + 66 < cLine) : L2.CallR X (.builtin "repr") (fun xs H Q => ∃ v p, xs = [v] ∧ L2.Dp X.K H v p ∧ SeqAt.shaped p = true ∧ PyData.showable p = true ∧ p.shown.length ≤ sizeLine ∧ Q (.str p.shown) H) := by
  intro pins s σ H xs us Q I r h
  obtain ⟨v, p, rfl, dp, hs, hz, hl, q⟩ := h
  obtain ⟨u, rfl, ru⟩ := L2.vals1 r
  obtain ⟨as, rd⟩ := L2.Dp.reads I p v u dp ru
  have nd : PyData.hasDict p = false := PyData.hasDict_of_canLay p (SeqAt.canLay_of_shaped hs)
  have d64 := SeqAt.depth_of_shaped hs
  have big : ∀ a : Addr, Reads s.heap (.ref a) p as → wpAny (model X.prog X.w) X.A (call (.builtin "repr") [.ref a]) (L2.EP X pins σ Q) X.xe s := fun a rd =>
    repr_of_reads' rd hz (PyData.noDict_hsm nd) hg (by omega) (fun _ _ e => e) (fun h' u tk k => ⟨.str p.shown, H, I.kept k, ⟨_, rfl⟩, q⟩) hl
  cases dp with
  | non =>
    cases ru
    refine P.repr_of_none ⟨.str _, H, I.tok _, ⟨_, rfl⟩, ?_⟩
    simpa only [PyData.shown] using q
  | bl b =>
    cases ru
    refine P.repr_of_bool ⟨.str _, H, I.tok _, ⟨_, rfl⟩, ?_⟩
    simpa only [PyData.shown] using q
  | int i =>
    obtain ⟨t, rfl⟩ := ru
    refine P.repr_of_int (by simpa [PyData.showable] using hz) ⟨.str _, H, I.tok _, ⟨_, rfl⟩, ?_⟩
    simpa only [PyData.shown] using q
  | str z =>
    obtain ⟨t, rfl⟩ := ru
    refine P.repr_of_str ⟨.str _, H, I.tok _, ⟨_, rfl⟩, ?_⟩ (by simpa only [PyData.shown] using hl)
    simpa only [PyData.shown] using q
  | lst _ _ => cases ru; exact big _ rd
  | tup _ _ => cases ru; exact big _ rd
/-- a built-in's value: a function's id or a type's -/
def biF : Bi → Value
  | .len => .builtin "len" | .abs => .builtin "abs" | .int => .type "int" | .mx => .builtin "max" | .mn => .builtin "min" | .sum => .builtin "sum" | .any => .builtin "any" | .all => .builtin "all"
  | .tuple => .type "tuple" | .list => .type "list" | .sorted => .builtin "sorted" | .repr => .builtin "repr"
theorem seq_ints {K : Frag} {α : List Addr} {H : Hp} {n : Nat} {ns : List Int} {v : V} (r : RH K α h H) (e : (seqAt h n).bind intsOf = some ns) (a : RD K α H (.ref n) v) : ∃ p, v = .ref p ∧ L2.SqL K H p (ns.map L2.V.int) := by
  obtain ⟨ds, e1, e2⟩ := Option.bind_eq_some_iff.mp e
  obtain ⟨p, vs, hp, s, t⟩ := seq_of r e1
  exact ⟨p, a.place hp, by rw [← ints_of e2 t]; exact s⟩
theorem seq_bols {K : Frag} {α : List Addr} {H : Hp} {n : Nat} {ns : List Bool} {v : V} (r : RH K α h H) (e : (seqAt h n).bind bolsOf = some ns) (a : RD K α H (.ref n) v) : ∃ p, v = .ref p ∧ L2.SqL K H p (ns.map L2.V.bl) := by
  obtain ⟨ds, e1, e2⟩ := Option.bind_eq_some_iff.mp e
  obtain ⟨p, vs, hp, s, t⟩ := seq_of r e1
  exact ⟨p, a.place hp, by rw [← bols_of e2 t]; exact s⟩
theorem RDs.one {K : Frag} {α : List Addr} {H : Hp} {d : D} {vs : List V} (r : RDs K α H [d] vs) : ∃ v, vs = [v] ∧ RD K α H d v := by
  cases r with | cons a b => cases b; exact ⟨_, rfl, a⟩
theorem RDs.two {K : Frag} {α : List Addr} {H : Hp} {d e : D} {vs : List V} (r : RDs K α H [d, e] vs) : ∃ v u, vs = [v, u] ∧ RD K α H d v ∧ RD K α H e u := by
  cases r with | cons a b => cases b with | cons c f => cases f; exact ⟨_, _, rfl, a, c⟩
theorem sort_eq {ns ns' : List Int} (p : ns'.Perm ns) (s : ns'.Pairwise (· ≤ ·)) : ns' = ns.mergeSort (fun a b => decide (a ≤ b)) := by
  have q : (ns.mergeSort (fun a b => decide (a ≤ b))).Pairwise (· ≤ ·) := by
    have := List.pairwise_mergeSort (le := fun a b : Int => decide (a ≤ b)) (by intro a b c h1 h2; simp at h1 h2 ⊢; omega) (by intro a b; simp; omega) ns
    exact this.imp (by intro a b h; simpa using h)
  have pp : ns'.Perm (ns.mergeSort (fun a b => decide (a ≤ b))) := p.trans (List.mergeSort_perm ns _).symm
  exact List.Perm.eq_of_pairwise (le := fun a b : Int => a ≤ b) (fun a b _ _ h1 h2 => Int.le_antisymm h1 h2) s q pp
theorem bi_ok (hc : X.calm = true) (hg : X.A.guards = some []) (hu : X.A.units + 66 < cLine) {b : Bi} {ds : List D} (e : biD b ds h = some (d, h')) :
    ∃ r : List V → Hp → L2.VK → Prop, L2.CallR X (biF b) r ∧ ∀ (α : List Addr) (H : Hp) (vs : List V) (Q : L2.VK), RH X.K α h H → RDs X.K α H ds vs → Kv X.K α H h' d Q → r vs H Q := by
  unfold biD at e
  split at e
  · cases e
    refine ⟨_, L2.call_len_seq, fun α H vs Q r a k => ?_⟩
    obtain ⟨v, rfl, a1⟩ := a.one
    replace a := a1
    obtain ⟨p, ws, rfl, s, t⟩ := a.tup'
    refine ⟨p, ws, rfl, .inr s, ?_⟩
    rw [← t.length]
    exact k.here r (.int _)
  · split at e
    · rename_i hl
      cases e
      refine ⟨_, L2.call_len_str, fun α H vs Q r a k => ?_⟩
      obtain ⟨v, rfl, a1⟩ := a.one
      replace a := a1
      cases a
      exact ⟨_, rfl, by rw [← line_eq]; exact hl, k.here r (.int _)⟩
    · cases e
  · rename_i n
    have lists : ∀ ds, seqAt h n = some ds → (D.int (ds.length : Nat), h) = (d, h') → ∃ r : List V → Hp → L2.VK → Prop, L2.CallR X (biF .len) r ∧ ∀ (α : List Addr) (H : Hp) (vs : List V) (Q : L2.VK), RH X.K α h H → RDs X.K α H [.ref n] vs → Kv X.K α H h' d Q → r vs H Q := fun ds hs e => by
      cases e
      refine ⟨_, L2.call_len_seq, fun α H vs Q r a k => ?_⟩
      obtain ⟨v, rfl, a1⟩ := a.one
      replace a := a1
      obtain ⟨p, ws, hp, s, t⟩ := seq_of r hs
      rw [a.place hp]
      refine ⟨p, ws, rfl, .inl s, ?_⟩
      rw [← t.length]
      exact k.here r (.int _)
    split at e
    · rename_i ds hx; exact lists ds (by unfold seqAt; rw [hx]) (Option.some.inj e)
    · rename_i ds hx; exact lists ds (by unfold seqAt; rw [hx]) (Option.some.inj e)
    · rename_i kvs hx
      cases e
      refine ⟨_, L2.call_lenD, fun α H vs Q r a k => ?_⟩
      obtain ⟨v, rfl, a1⟩ := a.one
      replace a := a1
      obtain ⟨p, ws, hp, hv, t⟩ := dK_of r hx
      rw [a.place hp]
      refine ⟨p, ws, rfl, hv, ?_⟩
      rw [← t.length]
      exact k.here r (.int _)
    · cases e
  · cases e
    refine ⟨_, L2.call_abs, fun α H vs Q r a k => ?_⟩
    obtain ⟨v, rfl, a1⟩ := a.one
    replace a := a1
    cases a
    exact ⟨_, rfl, k.here r (.int _)⟩
  · cases e
    refine ⟨_, L2.call_int1, fun α H vs Q r a k => ?_⟩
    obtain ⟨v, rfl, a1⟩ := a.one
    replace a := a1
    cases a
    exact .inl ⟨_, rfl, k.here r (.int _)⟩
  · cases e
    refine ⟨_, L2.call_int1, fun α H vs Q r a k => ?_⟩
    obtain ⟨v, rfl, a1⟩ := a.one
    replace a := a1
    cases a
    exact .inr ⟨_, rfl, k.here r (.int _)⟩
  · cases e
    refine ⟨_, L2.call_max2 hc, fun α H vs Q r a k => ?_⟩
    obtain ⟨v, u, rfl, a1, c⟩ := a.two
    replace a := a1
    cases a; cases c
    exact ⟨_, _, rfl, k.here r (.int _)⟩
  · cases e
    refine ⟨_, L2.call_min2 hc, fun α H vs Q r a k => ?_⟩
    obtain ⟨v, u, rfl, a1, c⟩ := a.two
    replace a := a1
    cases a; cases c
    exact ⟨_, _, rfl, k.here r (.int _)⟩
  · split at e
    · rename_i i r' hx
      cases e
      refine ⟨_, L2.cr_max hc, fun α H vs Q r a k => ?_⟩
      obtain ⟨v, rfl, a1⟩ := a.one
      replace a := a1
      obtain ⟨p, rfl, s⟩ := seq_ints r hx a
      refine ⟨p, _, rfl, s, Nat.succ_pos _, fun m hm hle => ?_⟩
      obtain ⟨m1, m2⟩ := maxI_spec i r'
      have : m = maxI (i :: r') := Int.le_antisymm (m2 m hm) (hle _ m1)
      rw [this]
      exact k.here r (.int _)
    · cases e
  · split at e
    · rename_i i r' hx
      cases e
      refine ⟨_, L2.cr_min hc, fun α H vs Q r a k => ?_⟩
      obtain ⟨v, rfl, a1⟩ := a.one
      replace a := a1
      obtain ⟨p, rfl, s⟩ := seq_ints r hx a
      refine ⟨p, _, rfl, s, Nat.succ_pos _, fun m hm hle => ?_⟩
      obtain ⟨m1, m2⟩ := minI_spec i r'
      have : m = minI (i :: r') := Int.le_antisymm (hle _ m1) (m2 m hm)
      rw [this]
      exact k.here r (.int _)
    · cases e
  · simp only [Option.map_eq_some_iff] at e
    obtain ⟨ns, e1, e2⟩ := e
    cases e2
    refine ⟨_, L2.cr_sum hc, fun α H vs Q r a k => ?_⟩
    obtain ⟨v, rfl, a1⟩ := a.one
    replace a := a1
    obtain ⟨p, rfl, s⟩ := seq_ints r e1 a
    exact ⟨p, ns, rfl, s, k.here r (.int _)⟩
  · simp only [Option.map_eq_some_iff] at e
    obtain ⟨ns, e1, e2⟩ := e
    cases e2
    refine ⟨_, L2.cr_any hc, fun α H vs Q r a k => ?_⟩
    obtain ⟨v, rfl, a1⟩ := a.one
    replace a := a1
    obtain ⟨p, rfl, s⟩ := seq_bols r e1 a
    exact ⟨p, ns, rfl, s, k.here r (.bl _)⟩
  · simp only [Option.map_eq_some_iff] at e
    obtain ⟨ns, e1, e2⟩ := e
    cases e2
    refine ⟨_, L2.cr_all hc, fun α H vs Q r a k => ?_⟩
    obtain ⟨v, rfl, a1⟩ := a.one
    replace a := a1
    obtain ⟨p, rfl, s⟩ := seq_bols r e1 a
    exact ⟨p, ns, rfl, s, k.here r (.bl _)⟩
  · cases e
    refine ⟨_, L2.call_tuple_of, fun α H vs Q r a k => ?_⟩
    obtain ⟨v, rfl, a1⟩ := a.one
    replace a := a1
    obtain ⟨p, ws, rfl, s, t⟩ := a.tup'
    exact ⟨p, ws, rfl, .inr ⟨s, k.here r (.tup s t)⟩⟩
  · simp only [Option.map_eq_some_iff] at e
    obtain ⟨ds, e1, e2⟩ := e
    cases e2
    refine ⟨_, L2.call_tuple_of, fun α H vs Q r a k => ?_⟩
    obtain ⟨v, rfl, a1⟩ := a.one
    replace a := a1
    obtain ⟨p, ws, hp, s, t⟩ := seq_of r e1
    rw [a.place hp]
    exact ⟨p, ws, rfl, .inl ⟨s, k.newT r t⟩⟩
  · refine ⟨_, L2.call_list_of, fun α H vs Q r a k => ?_⟩
    obtain ⟨v, rfl, a1⟩ := a.one
    replace a := a1
    obtain ⟨p, ws, rfl, s, t⟩ := a.tup'
    exact ⟨p, ws, rfl, .inr s, Kv.newL r t e k⟩
  · obtain ⟨ds, e1, e2⟩ := Option.bind_eq_some_iff.mp e
    refine ⟨_, L2.call_list_of, fun α H vs Q r a k => ?_⟩
    obtain ⟨v, rfl, a1⟩ := a.one
    replace a := a1
    obtain ⟨p, ws, hp, s, t⟩ := seq_of r e1
    rw [a.place hp]
    exact ⟨p, ws, rfl, .inl s, Kv.newL r t e2 k⟩
  · obtain ⟨ns, e1, e2⟩ := Option.bind_eq_some_iff.mp e
    refine ⟨_, L2.cr_sortedI, fun α H vs Q r a k => ?_⟩
    obtain ⟨v, rfl, a1⟩ := a.one
    replace a := a1
    obtain ⟨p, rfl, s⟩ := seq_ints r e1 a
    refine ⟨p, ns, rfl, s, fun ns' q pm pw => ?_⟩
    rw [sort_eq pm pw]
    exact Kv.newL r .ints e2 k q
  · split at e
    · rename_i dd p hp
      split at e
      · rename_i hz
        cases e
        refine ⟨_, call_reprD hg hu, fun α H vs Q r a k => ?_⟩
        obtain ⟨v, rfl, a1⟩ := a.one
        replace a := a1
        obtain ⟨dp, hs⟩ := py_of r a hp
        exact ⟨v, p, rfl, dp, hs, hz.1, by rw [← line_eq]; exact hz.2, k.here r (.str _)⟩
      · cases e
    · cases e
  · cases e

def tyName : Ty → String
  | .int => "int" | .bool => "bool" | .str => "str" | .tuple => "tuple" | .list => "list" | .dict => "dict"
theorem tyx_of {K : Frag} {α : List Addr} {H : Hp} {v : V} {t : Ty} (r : RH K α h H) (a : RD K α H x v) (e : tyD x h = some t) : L2.TyX K H v (.type (tyName t)) := by
  cases x
  case non => simp [tyD] at e
  case bl b => simp [tyD] at e; subst e; cases a; exact .base (.bl b)
  case int i => simp [tyD] at e; subst e; cases a; exact .base (.int i)
  case str z => simp [tyD] at e; subst e; cases a; exact .base (.str z)
  case tup ds =>
    simp [tyD] at e; subst e
    obtain ⟨p, vs, rfl, s, _⟩ := a.tup'
    rcases s with (s | ⟨ob, s⟩) | ⟨o, its, n, e1, e2, _⟩
    · exact .base (.tup s)
    · exact .fTuple s
    · exact .kTuple e1 e2
  case ref n =>
    simp only [tyD] at e
    split at e
    · rename_i xs hx
      cases e
      obtain ⟨p, hp, vs, hv, _⟩ := r.get hx
      rw [a.place hp]; exact .base (.lst hv)
    · rename_i kvs hx
      cases e
      obtain ⟨p, hp, vs, hv, _⟩ := r.get hx
      rw [a.place hp]; exact .base (.dK hv)
    · cases e
theorem kit_all (t u : Ty) (K : Frag) : PySem.W.kitOne K (.type (tyName t)) (.type (tyName u)) = some (decide (t = u) || (decide (t = .bool) && decide (u = .int))) := by
  cases t <;> cases u <;> exact L2.kit_ty (by decide +kernel)
theorem kit_non (u : Ty) (K : Frag) : PySem.W.kitOne K (.type "NoneType") (.type (tyName u)) = some false := by
  cases u <;> exact L2.kit_ty (by decide +kernel)
theorem isi_ok {t : Ty} {b : Bool} (e : isiD x t h = some b) : ∀ (α : List Addr) (H : Hp) (v : V), RH X.K α h H → RD X.K α H x v → ∃ s, L2.TyX X.K H v s ∧ PySem.W.kitOne X.K s (.type (tyName t)) = some b := by
  intro α H v r a
  have gen : ∀ u, tyD x h = some u → (t == u) = b → u ≠ .bool → ∃ s, L2.TyX X.K H v s ∧ PySem.W.kitOne X.K s (.type (tyName t)) = some b := fun u e1 e2 nb => by
    refine ⟨_, tyx_of r a e1, ?_⟩
    rw [kit_all, ← e2]
    congr 1
    cases t <;> cases u <;> first | rfl | exact absurd rfl nb
  cases x
  case non => simp [isiD] at e; subst e; cases a; exact ⟨_, .base .non, kit_non t _⟩
  case bl k =>
    simp only [isiD, Option.some.injEq] at e
    subst e
    refine ⟨_, tyx_of r a (show tyD (.bl k) h = some .bool from rfl), ?_⟩
    rw [kit_all]
    congr 1
    cases t <;> rfl
  case int i => exact gen .int rfl (by simpa [isiD, tyD] using e) (by decide)
  case str i => exact gen .str rfl (by simpa [isiD, tyD] using e) (by decide)
  case tup i => exact gen .tuple rfl (by simpa [isiD, tyD] using e) (by decide)
  case ref n =>
    simp only [isiD, Option.map_eq_some_iff] at e
    obtain ⟨u, e1, e2⟩ := e
    refine gen u e1 e2 ?_
    rintro rfl
    simp only [tyD] at e1
    split at e1 <;> cases e1
/-- stores -/
theorem set_ok (hu : X.A.units + 66 < cLine) {i w : D} (e : setD x i w h = some h') : ∃ r : L2.TSet, L2.PSet X r ∧ ∀ (α : List Addr) (H : Hp) (v u z : V) (Q : Hp → Prop), RH X.K α h H → RD X.K α H x v → RD X.K α H i u → RD X.K α H w z →
    (∀ H', XE X.K α H α H' → RH X.K α h' H' → Q H') → r v u z H Q := by
  cases x <;> simp only [setD] at e <;> try cases e
  rename_i n
  split at e
  · rename_i xs hx
    obtain ⟨k, e1, e2⟩ := Option.bind_eq_some_iff.mp e
    simp only [Option.map_eq_some_iff] at e2
    obtain ⟨j, e2, rfl⟩ := e2
    rw [int?_eq e1]
    refine ⟨_, L2.set_list, fun α H v u z Q r a c f q => ?_⟩
    obtain ⟨p, hp, vs, hv, rd⟩ := r.get hx
    rw [a.place hp]
    cases c
    refine ⟨p, vs, _, j, rfl, rfl, hv, by rw [← rd.length]; exact e2, ?_⟩
    obtain ⟨x1, r1⟩ := r.write (o' := .lst (xs.set j w)) (u := .lst (vs.set j z)) hx hp rfl rfl fun x => ⟨_, L2.upd_same, (RDs.set j f rd).mono x _ _⟩
    exact q _ x1 r1
  · rename_i kvs hx
    obtain ⟨k, e1, e2⟩ := Option.bind_eq_some_iff.mp e
    split at e2
    · rename_i hl
      cases e2
      refine ⟨_, set_dict (by omega), fun α H v u z Q r a c f q => ?_⟩
      obtain ⟨p, hp, ws, hv, rd⟩ := r.get hx
      rw [a.place hp]
      obtain ⟨x1, r1⟩ := r.write (o' := .dK (putK kvs k w)) (u := .dK (L2.putK ws k z)) hx hp rfl rfl fun x => ⟨_, L2.upd_same, (rd.putK f).mono x⟩
      refine ⟨p, _, rfl, ?_, q _ x1 r1⟩
      rw [key_of e1 c]
      exact .k hv (by rw [← RKv.length rd, ← line_eq]; exact hl)
    · cases e2
  · cases e
/-- methods of lists -/
def mtId : Mt → String
  | .append => "list.append" | .extend => "list.extend" | .pop => "list.pop"
theorem mt_ok {m : Mt} {ds : List D} (e : mtD m x ds h = some (d, h')) : ∃ r : V → List V → Hp → L2.VK → Prop, L2.MtR X (mtId m) r ∧ ∀ (α : List Addr) (H : Hp) (v : V) (vs : List V) (Q : L2.VK), RH X.K α h H → RD X.K α H x v → RDs X.K α H ds vs → Kv X.K α H h' d Q → r v vs H Q := by
  cases x <;> simp only [mtD] at e <;> try cases e
  rename_i n
  split at e
  · rename_i ys hy
    split at e
    · rename_i y
      split at e
      · rename_i hl
        cases e
        refine ⟨_, L2.mt_append, fun α H v vs Q r a c k => ?_⟩
        obtain ⟨p, hp, ws, hv, rd⟩ := r.get (lst_at hy)
        obtain ⟨u, rfl, c1⟩ := c.one
        rw [a.place hp]
        obtain ⟨x1, r1⟩ := r.write (o' := .lst (ys ++ [y])) (u := .lst (ws ++ [u])) (lst_at hy) hp rfl rfl fun x => ⟨_, L2.upd_same, (rd.append (.cons c1 .nil)).mono x _ _⟩
        exact ⟨p, ws, u, rfl, rfl, hv, by rw [← rd.length, ← line_eq]; exact hl, k _ _ _ x1 r1 .non⟩
      · cases e
    · rename_i b
      split at e
      · rename_i zs hz
        split at e
        · rename_i hl
          cases e
          refine ⟨_, L2.mt_extend, fun α H v vs Q r a c k => ?_⟩
          obtain ⟨p, hp, ws, hv, rd⟩ := r.get (lst_at hy)
          obtain ⟨q, us, hq, hus, rd2⟩ := lst_of r hz
          obtain ⟨u, rfl, c1⟩ := c.one
          rw [a.place hp, c1.place hq]
          obtain ⟨x1, r1⟩ := r.write (o' := .lst (ys ++ zs)) (u := .lst (ws ++ us)) (lst_at hy) hp rfl rfl fun x => ⟨_, L2.upd_same, (rd.append rd2).mono x _ _⟩
          exact ⟨p, q, ws, us, rfl, rfl, hv, hus, by rw [← rd.length, ← rd2.length, ← line_eq]; exact hl, k _ _ _ x1 r1 .non⟩
        · cases e
      · cases e
    · split at e
      · rename_i y hl
        cases e
        refine ⟨_, L2.mt_pop, fun α H v vs Q r a c k => ?_⟩
        cases c
        obtain ⟨p, hp, ws, hv, rd⟩ := r.get (lst_at hy)
        rw [a.place hp]
        obtain ⟨u, h1, h2⟩ := rd.get hl
        rw [rd.length] at h1
        obtain ⟨x1, r1⟩ := r.write (o' := .lst ys.dropLast) (u := .lst ws.dropLast) (lst_at hy) hp rfl rfl fun x => ⟨_, L2.upd_same, rd.dropLast.mono x _ _⟩
        exact ⟨p, ws, u, rfl, rfl, hv, h1, k _ _ _ x1 r1 (h2.mono x1)⟩
      · cases e
    · cases e
  · cases e
theorem truth_ok {b : Bool} (e : truth x h = some b) : ∀ (α : List Addr) (H : Hp) (v : V), RH X.K α h H → RD X.K α H x v → L2.TruV X.K v H b := by
  intro α H v r a
  cases x
  case non => simp [truth] at e; subst e; cases a; rfl
  case bl k => simp [truth] at e; subst e; cases a; rfl
  case int i => simp only [truth, Option.some.injEq] at e; subst e; cases a; rfl
  case str z =>
    simp only [truth] at e
    split at e
    · rename_i hl
      cases e; cases a
      exact ⟨by rw [← line_eq]; exact hl, rfl⟩
    · cases e
  case tup ds =>
    simp only [truth, Option.some.injEq] at e
    subst e
    obtain ⟨p, vs, rfl, s, t⟩ := a.tup'
    exact .inr (.inl ⟨vs, s, by cases t <;> rfl⟩)
  case ref n =>
    simp only [truth] at e
    have lists : ∀ ds, seqAt h n = some ds → (!ds.isEmpty) = b → L2.TruV X.K v H b := fun ds hs e => by
      obtain ⟨p, vs, hp, s, t⟩ := seq_of r hs
      rw [a.place hp]
      exact .inl ⟨vs, s, by rw [← e]; cases t <;> rfl⟩
    split at e
    · rename_i ds hx; exact lists ds (by unfold seqAt; rw [hx]) (Option.some.inj e)
    · rename_i ds hx; exact lists ds (by unfold seqAt; rw [hx]) (Option.some.inj e)
    · rename_i kvs hx
      cases e
      obtain ⟨p, ws, hp, hv, t⟩ := dK_of r hx
      rw [a.place hp]
      exact .inr (.inr ⟨ws, hv, by cases t <;> rfl⟩)
    · cases e
end
end Z
set_option maxHeartbeats 4000000
/-! Z5: enumerate over a tuple; what a loop walks. -/
namespace ZEnum
open PySem
abbrev enObj (p : Nat) : Obj := { cls := .type "enumerate", data := .fields #[.none, .bool false, .ref p, rawInt 0, .none, .none] }
theorem new1 {v : Value} {o : Obj} {G : Heap → Prop} (B : Begins v o G) : Meets (Builtin.«enumerate.__new__» ⟨[.type "enumerate", v], []⟩)
    (fun _ R s => G s.heap ∧ R (.ok (.ret (.ref (s.heap.push o).objs.size))) { s with heap := (s.heap.push o).push (enObj s.heap.objs.size) }) := by
  refine .of_wp fun prog w A R s h => ?_
  obtain ⟨hp, g, d, tk, os⟩ := s
  obtain ⟨g1, fin⟩ := h
  have sub := sub_enumerate
  have step : ∀ {A' : Around} {E : Value → Shared → Prop} {Q : Value → Shared → Prop}, Q (.ref hp.objs.size) ⟨hp.push o, g, d, tk, os⟩ → wpAny (model prog w) A' (pyIter v) Q E ⟨hp, g, d, tk, os⟩ :=
    fun q => B.iter prog w _ _ ⟨hp, g, d, tk, os⟩ _ g1 q
  wp_walk using step
  refine wpAny_stack_any fun st => wpAny_pure ?_
  split
  · rename_i c _ _ _ _ _
    cases (c == Value.type "enumerate")
    all_goals
      wp_walk using step
      exact ⟨_, rfl, fin⟩
  · wp_walk using step
    exact ⟨_, rfl, fin⟩
theorem begins1 {prog : Program} {w : World} {A : Around} {E : Value → Shared → Prop} {s : Shared} {v : Value} {o : Obj} {G : Heap → Prop} {Q : Value → Shared → Prop} (B : Begins v o G) (g : G s.heap)
    (fin : ∀ h1 : Heap, IsEnum h1 (s.heap.objs.size + 1) s.heap.objs.size 0 .none → h1.get? s.heap.objs.size = some o → (∀ b u, s.heap.get? b = some u → h1.get? b = some u) → Q (.ref (s.heap.objs.size + 1)) { s with heap := h1 }) :
    wpAny (model prog w) A (call (.type "enumerate") [v]) Q E s := by
  refine callType_new F.called_enumerate (by decide) (F.typeCall_enumerate_1 _) (F.newCall_enumerate_1 _) (fun x => F.args_object_init_2 x _) F.entry_enumerate_new (new1 B) ⟨g, ?_⟩
  have size : (s.heap.push o).objs.size = s.heap.objs.size + 1 := Heap.size_push ..
  show _ ∧ _
  rw [size]
  have it : IsEnum ((s.heap.push o).push (enObj s.heap.objs.size)) (s.heap.objs.size + 1) s.heap.objs.size 0 .none := by
    have z := Heap.get?_push_size (s.heap.push o) (o := enObj s.heap.objs.size) rfl
    rw [size] at z
    exact z
  exact ⟨⟨_, it, rfl⟩, fin _ it (Heap.get?_push_of_some _ (Heap.get?_push_size _ B.free)) fun b u e => Heap.get?_push_of_some _ (Heap.get?_push_of_some _ e)⟩
theorem done1 {prog : Program} {w : World} {A : Around} {E : Value → Shared → Prop} {s : Shared} {e it l : Addr} {c : Int} {i : Nat} {items : Array Value} {old : Value} {Q : Option Value → Shared → Prop} (hh : A.handled = none)
    (he : IsEnum s.heap e it c old) (hit : s.heap.IsTupleIter it l i) (ht : s.heap.IsTuple l items) (hx : items[i]? = none) (fin : ∀ h1, Heap.ExtBut it s.heap h1 → Q none { s with heap := h1 }) :
    wpAny (model prog w) A (pyNext (.ref e)) Q E s := by
  have ty : s.TypeIs (.ref e) "enumerate" := ⟨_, he, rfl⟩
  have body : ∀ {A' : Around} {Q' : Value → Shared → Prop} {E' : Value → Shared → Prop}, A'.handled = none → (∀ h1 x, Heap.ExtBut it s.heap h1 → (∃ o, h1.get? x = some o ∧ o.cls = .type "StopIteration") → E' (.ref x) { s with heap := h1 }) →
      wpAny (model prog w) A' (field (.ref e) 2 >>= fun v => Builtin.SmallTypes.nextOf v) Q' E' s := fun hh' k =>
    wpAny_bind (wpAny_field he rfl (x := .ref it) rfl (wpAny_nextOf_tuple_end hh' hit ht hx k))
  unfold pyNext
  refine wpAny_bind (wpAny_attempt (wpAny_callSpecial?_slot (name := Str.ofString "__next__") ty F.slot_enumerate_next
    (wpAny_call_entry F.slot_enumerate_next ty F.entry_enumerate_next ?_ (F.args_enumerate_next_1 _))))
  show wpAny _ _ (field (.ref e) 2 >>= _) _ _ _
  refine wpAny_bind (wpAny_field he rfl (x := .ref it) rfl (wpAny_bind (wpAny_nextOf_tuple_end hh hit ht hx fun h1 x ext hx1 => ?_)))
  obtain ⟨o, ho, hc⟩ := hx1
  exact wpAny_bind (wpAny_isInstance (T := "StopIteration") (b := true) ⟨o, ho, hc⟩ isSubtype_stop (wpAny_pure (fin _ ext)))
end ZEnum
namespace Z
open PySem PySem.Spec PyProof.Rows L2
/-- a pair of the place and the tuple's item at each turn -/
def ItEt (K : PySem.W.Frag) (a : Addr) : L2.It where
  go := fun i H => ∃ (xs : List L2.V) (x : L2.V), SqT K H a xs ∧ xs[i]? = some x
  yld := fun i H v H' => ∃ T x, v = .ref T ∧ H T = none ∧ H' = upd H T (.tup [.int (i : Nat), x]) ∧ ∀ xs, SqT K H a xs → xs[i]? = some x
  stop := fun i H => ∃ xs : List L2.V, SqT K H a xs ∧ xs.length ≤ i
theorem tup_apart {X : Cx} {pins : List (Addr × Obj)} {σ : L2.St} {H : L2.Hp} {s : Shared} {a b : Addr} {xs : List L2.V} (I : Inv X pins σ H s) (q : SqT X.K H a xs) (f : FpOk X pins H b) : b ≠ a := by
  rintro rfl
  rcases q with (q | ⟨o, q⟩) | ⟨o, its, n, q, _⟩
  · rw [f.1] at q; cases q
  · rw [f.1] at q; cases q
  · have e := I.ok.mod.kin _ _ q
    rcases f.2.2.2.1 with z | z
    · exact I.ok.noex _ _ e z
    · exact absurd (Nat.lt_of_lt_of_le (Heap.lt_size e) (Nat.le_trans I.ok.bsz z)) (Nat.lt_irrefl _)
theorem turnEt {P : Program} {w : World} {K : PySem.W.Frag} {elts : List Expr} {kk : Nat} {tpos : Pos} (a e it : Addr) :
    Turn P w K (.Tuple elts kk tpos) (ItEt K a) [e, it] e (fun i h => (∃ old, IsEnum h e it ((i : Nat) : Int) old) ∧ h.IsTupleIter it a i ∧ e ≠ it) := by
  have two : ∀ b, b ∈ [e, it] → b = e ∨ b = it := fun b hb => by simpa using hb
  refine ⟨by simp, fun i h st b hb => ?_, fun i h h' st k => ?_, ?_, ?_, fun A i s Q E st fin => ?_⟩
  · obtain ⟨⟨old, he⟩, ⟨o, ho, _, hd⟩, _⟩ := st
    rcases two b hb with rfl | rfl
    · exact ⟨_, he, fun v q => nomatch q⟩
    · exact ⟨o, ho, fun v q => by rw [hd] at q; cases q⟩
  · obtain ⟨⟨old, he⟩, hi, ne⟩ := st
    exact ⟨⟨old, k e (by simp) _ he⟩, hi.at fun o q => k it (by simp) o q, ne⟩
  · intro X hP hw hK hc i pins s σ H E I hf st hg
    subst hP hw hK
    obtain ⟨⟨old, he⟩, hit, ne⟩ := st
    obtain ⟨xs, x, hq, hx⟩ := hg
    obtain ⟨its, rv, p, hz⟩ := I.tuple hq
    obtain ⟨u, hu, ru⟩ := rv.get hx
    have el : e < s.heap.objs.size := Heap.lt_size he
    have ea : e ≠ a := tup_apart I hq (hf e (by simp))
    have ia : it ≠ a := tup_apart I hq (hf it (by simp))
    have hh : X.A.in1.handled = none := I.ok.hd hc
    have D := Draws.tuple (prog := X.prog) (w := X.w) hh it a (Ne.symm ia) its.toArray
    have hi : i < its.toArray.size := by
      have := (List.getElem?_eq_some_iff.mp hu).1
      simpa using this
    refine wpAny_pyNext_enum_itemD D he ⟨hit, p⟩ hi ne (by simp [ne, ea]) fun y h1 tk hy ho st1 hT hs1 hk => ?_
    have yu : y = u := by
      have hy' : its.toArray[i]? = some y := hy
      rw [List.getElem?_toArray] at hy'
      rw [hu] at hy'
      exact (Option.some.inj hy').symm
    subst yu
    refine ⟨_, rfl, wpAny_letOwnedTupleGo_enum (s := { s with heap := h1, toks := tk + 1 }) ho fun h2 he2 sb => ?_⟩
    have hT2 : h2.get? s.heap.objs.size = some { cls := .type "tuple", data := .seq #[.int i tk, y] } := (sb.2 _ (Nat.ne_of_gt el)).trans hT
    have new : ObjOk X.prog X.w (upd H s.heap.objs.size (.tup [.int (i : Nat), x])) h2 s.heap.objs.size (.tup [.int (i : Nat), x]) := by
      refine ⟨by show 2 ≤ sizeLine; decide, [.int i tk, y], .cons ⟨_, rfl⟩ (.cons ru .nil), ?_⟩
      exact ⟨_, hT2, rfl, _, rfl⟩
    have kept : ∀ b o, b ∉ [e, it] → s.heap.get? b = some o → h2.get? b = some o := fun b o hb q => by
      have b1 : b ≠ e := fun z => hb (by simp [z])
      have b2 : b ≠ it := fun z => hb (by simp [z])
      exact (sb.2 b b1).trans (hk b o b1 b2 q)
    have I1 := I.turnedNew (t' := tk + 1) kept hf (Nat.le_refl _) new
    refine ⟨.ref s.heap.objs.size, _, I1, rfl, ⟨_, x, rfl, I.hok.fresh (Nat.le_refl _), rfl, fun ys hy => ?_⟩, ⟨⟨y, ?_⟩, st1.1.at fun o q => (sb.2 it (Ne.symm ne)).trans q, ne⟩, fun b hb => ?_⟩
    · rw [I.tuple_inj hy hq]; exact hx
    · have c : ((i + 1 : Nat) : Int) = (i : Int) + 1 := by omega
      rw [c]; exact he2
    · have lt : b < s.heap.objs.size := by
        rcases two b hb with rfl | rfl
        · exact el
        · obtain ⟨_, q, _⟩ := hit; exact Heap.lt_size q
      rw [upd_ne (Nat.ne_of_lt lt)]
      exact (hf b hb).1
  · intro X hP hw hK hc i pins s σ H E I hf st hg
    subst hP hw hK
    obtain ⟨⟨old, he⟩, hit, ne⟩ := st
    obtain ⟨xs, hq, hx⟩ := hg
    obtain ⟨its, rv, p, hz⟩ := I.tuple hq
    have ia : it ≠ a := tup_apart I hq (hf it (by simp))
    obtain ⟨f0, f1, f2, f3, f4, f5⟩ := hf it (by simp)
    have hl := rv.length
    have none : its.toArray[i]? = none := by
      rw [List.getElem?_toArray]
      exact List.getElem?_eq_none_iff.mpr (by omega)
    exact ZEnum.done1 (I.ok.hd hc) he hit p none fun h1 ext => ⟨rfl, I.turned (t' := s.toks) (fun b o hb q => ext b o hb q) f0 f1 f3 f4 f5⟩
  · obtain ⟨⟨_, he⟩, _⟩ := st
    exact wpAny_pyIter_enum he fin
def iEnt (K : PySem.W.Frag) (ta : TA) : TI := fun σ H R => ta σ H fun vs H1 => ∃ a xs, vs = [.ref a] ∧ ((SqL K H1 a xs ∧ R (Ite K a) H1) ∨ (SqT K H1 a xs ∧ R (ItEt K a) H1))
/-- for (i, x) in enumerate(a list or a tuple) -/
theorem pi_ent {X : Cx} {e : Expr} {ta : TA} {p pos tpos : Pos} {elts : List Expr} {kk : Nat} (hg : Gl X "enumerate") (hm : X.mg "enumerate" = none) (ha : PA X [e] ta) (hs : starEach [e] X.env = [(false, eval e X.env)]) :
    PI X (.Tuple elts kk tpos) (.Call (.Name "enumerate" p) [e] [] pos) (iEnt X.K ta) := by
  refine ⟨fun pins s σ H R I h => ?_⟩
  refine Call_ (ld_blt I hg hm boot_enumerate (PyProof.Rows.callWith_type1 (thn (ha.run pos pins s σ H _ I h) fun us s1 ⟨vs, H1, I1, r1, a, xs, ev, q⟩ => ?_) hs rfl))
  subst ev
  obtain ⟨u, rfl, ru⟩ := vals1 r1
  cases ru
  have fp : ∀ b, b ∈ [s1.heap.objs.size + 1, s1.heap.objs.size] → FpOk X pins H1 b := fun b hb => by
    have le : s1.heap.objs.size ≤ b := by
      have : b = s1.heap.objs.size + 1 ∨ b = s1.heap.objs.size := by simpa using hb
      rcases this with rfl | rfl
      · exact Nat.le_succ _
      · exact Nat.le_refl _
    exact I1.fpOk le (I1.hok.fresh le)
  rcases q with ⟨sq, q⟩ | ⟨sq, q⟩
  · obtain ⟨its, rv, pl, hz⟩ := I1.list sq
    refine call_enumerate_list pl.isList fun h1 he hit hsz hk => wpAny_pyIter_enum he ?_
    exact ⟨_, _, _, _, H1, rfl, I1.kept (t' := s1.toks) hk, turn_enum a (s1.heap.objs.size + 1) s1.heap.objs.size, ⟨⟨.none, he⟩, hit, Nat.succ_ne_self _⟩, fp, q⟩
  · obtain ⟨its, rv, pl, hz⟩ := I1.tuple sq
    refine ZEnum.begins1 (begins_tuple a its.toArray) pl fun h1 he hit hk => wpAny_pyIter_enum he ?_
    exact ⟨_, _, _, _, H1, rfl, I1.kept (t' := s1.toks) hk, turnEt a (s1.heap.objs.size + 1) s1.heap.objs.size, ⟨⟨.none, he⟩, ⟨_, hit, rfl, rfl⟩, Nat.succ_ne_self _⟩, fp, q⟩

/-! ### what is walked, over plain data -/
/-- J goes as it says, from H0 on -/
def ItOk (K : Frag) (α : List Addr) (it : Z.It) (J : L2.It) (H0 : Hp) : Prop :=
  ∀ α' h' H', XE K α H0 α' H' → RH K α' h' H' → ∀ i, match turn it i h' with
    | none => True
    | some none => J.stop i H'
    | some (some d) => J.go i H' ∧ ∀ x H'', J.yld i H' x H'' → XE K α' H' α' H'' ∧ RH K α' h' H'' ∧ RD K α' H'' d x
section
variable {K : Frag} {α α' : List Addr} {H0 H' : Hp} {h0 h' : Hq}
theorem itOk_tup {p : Addr} {ds : List D} {vs : List V} (s : L2.SqT K H0 p vs) (r : RDs K α H0 ds vs) : ItOk K α (.items ds) (Itt K p) H0 := fun α' h' H' x rh i => by
  have s' := x.keep _ _ s
  show match some ds[i]? with | none => True | some none => _ | some (some d) => _
  cases e : ds[i]? with
  | none => exact ⟨vs, s', by rw [← r.length]; exact List.getElem?_eq_none_iff.mp e⟩
  | some d =>
    obtain ⟨v, hv, rd⟩ := r.get e
    refine ⟨⟨vs, v, s', hv⟩, fun y H'' hy => ?_⟩
    obtain ⟨rfl, q⟩ := hy
    have q1 := q vs s'
    rw [hv] at q1; cases q1
    exact ⟨.refl, rh, rd.mono x _ _⟩
theorem itOk_range (lo : Int) (n : Nat) (ds : List D) (hd : ds = (List.range n).map fun i => D.int (lo + (i : Nat))) : ItOk K α (.items ds) (Itr lo n) H0 := fun α' h' H' x rh i => by
  subst hd
  show match some (_ : Option D) with | none => True | some none => _ | some (some d) => _
  by_cases hi : i < n
  · rw [List.getElem?_map, List.getElem?_range hi]
    refine ⟨hi, fun y H'' hy => ?_⟩
    obtain ⟨rfl, rfl⟩ := hy
    exact ⟨.refl, rh, .int _⟩
  · rw [List.getElem?_eq_none (by simpa using hi)]
    exact Nat.le_of_not_lt hi
theorem itOk_str (z : Str) : ItOk K α (.items (strItems z)) (Its z) H0 := fun α' h' H' x rh i => by
  show match some (_ : Option D) with | none => True | some none => _ | some (some d) => _
  unfold strItems
  rw [List.getElem?_map]
  cases e : z.cps.toList[i]? with
  | none =>
    have := List.getElem?_eq_none_iff.mp e
    show z.cps.size ≤ i
    simpa using this
  | some c =>
    have e' : z.cps[i]? = some c := by rw [← Array.getElem?_toList]; exact e
    refine ⟨(Array.getElem?_eq_some_iff.mp e').1, fun y H'' hy => ?_⟩
    obtain ⟨rfl, c', e2, rfl⟩ := hy
    rw [e'] at e2; cases e2
    exact ⟨.refl, rh, .str _⟩
/-- how a list's number lies, later -/
theorem seq_later {n : Nat} {p : Addr} {ds : List D} (x : XE K α H0 α' H') (rh : RH K α' h' H') (ep : α[n]? = some p) (e : seqAt h' n = some ds) : ∃ vs, L2.SqL K H' p vs ∧ RDs K α' H' ds vs := by
  obtain ⟨q, vs, hq, s, t⟩ := seq_of rh e
  rw [x.at ep] at hq; cases hq
  exact ⟨vs, s, t⟩
theorem itOk_list {n : Nat} {p : Addr} (ep : α[n]? = some p) : ItOk K α (.list n) (Itl K p) H0 := fun α' h' H' x rh i => by
  show match (seqAt h' n).map fun ds => ds[i]? with | none => True | some none => _ | some (some d) => _
  cases e : seqAt h' n with
  | none => trivial
  | some ds =>
    obtain ⟨vs, s, r⟩ := seq_later x rh ep e
    show match some ds[i]? with | none => True | some none => _ | some (some d) => _
    cases e1 : ds[i]? with
    | none => exact ⟨vs, s, by rw [← r.length]; exact List.getElem?_eq_none_iff.mp e1⟩
    | some d =>
      obtain ⟨v, hv, rd⟩ := r.get e1
      refine ⟨⟨vs, v, s, hv⟩, fun y H'' hy => ?_⟩
      obtain ⟨rfl, q⟩ := hy
      have q1 := q vs s
      rw [hv] at q1; cases q1
      exact ⟨.refl, rh, rd⟩
/-- a new pair -/
theorem pair_ok {T : Addr} {a b : D} {x y : V} (rh : RH K α' h' H') (nT : H' T = none) (ra : RD K α' H' a x) (rb : RD K α' H' b y) :
    XE K α' H' α' (L2.upd H' T (.tup [x, y])) ∧ RH K α' h' (L2.upd H' T (.tup [x, y])) ∧ RD K α' (L2.upd H' T (.tup [x, y])) (.tup [a, b]) (.ref T) :=
  ⟨.tup nT, rh.tup nT, .newTup nT (.cons ra (.cons rb .nil))⟩
theorem itOk_enum {n : Nat} {p : Addr} (ep : α[n]? = some p) : ItOk K α (.enum n) (Ite K p) H0 := fun α' h' H' x rh i => by
  show match (seqAt h' n).map fun ds => (ds[i]?).map fun d => D.tup [.int (i : Nat), d] with | none => True | some none => _ | some (some d) => _
  cases e : seqAt h' n with
  | none => trivial
  | some ds =>
    obtain ⟨vs, s, r⟩ := seq_later x rh ep e
    show match some ((ds[i]?).map fun d => D.tup [.int (i : Nat), d]) with | none => True | some none => _ | some (some d) => _
    cases e1 : ds[i]? with
    | none => exact ⟨vs, s, by rw [← r.length]; exact List.getElem?_eq_none_iff.mp e1⟩
    | some d =>
      obtain ⟨v, hv, rd⟩ := r.get e1
      refine ⟨⟨vs, v, s, hv⟩, fun y H'' hy => ?_⟩
      obtain ⟨T, u, rfl, nT, rfl, q⟩ := hy
      have q1 := q vs s
      rw [hv] at q1; cases q1
      exact pair_ok rh nT (.int _) rd
theorem enumD_get : ∀ (ds : List D) (k i : Nat), (enumD k ds)[i]? = (ds[i]?).map fun d => D.tup [.int ((k + i : Nat) : Int), d]
  | [], _, _ => by simp [enumD]
  | d :: ds, k, 0 => by simp [enumD]
  | d :: ds, k, i + 1 => by
    have := enumD_get ds (k + 1) i
    rw [show k + 1 + i = k + (i + 1) by omega] at this
    simpa [enumD] using this
theorem itOk_enumT {p : Addr} {ds : List D} {vs : List V} (s : L2.SqT K H0 p vs) (r : RDs K α H0 ds vs) : ItOk K α (.items (enumD 0 ds)) (ItEt K p) H0 := fun α' h' H' x rh i => by
  have s' := x.keep _ _ s
  show match some (enumD 0 ds)[i]? with | none => True | some none => _ | some (some d) => _
  rw [enumD_get]
  cases e : ds[i]? with
  | none => exact ⟨vs, s', by rw [← r.length]; exact List.getElem?_eq_none_iff.mp e⟩
  | some d =>
    obtain ⟨v, hv, rd⟩ := r.get e
    refine ⟨⟨vs, v, s', hv⟩, fun y H'' hy => ?_⟩
    obtain ⟨T, u, rfl, nT, rfl, q⟩ := hy
    have q1 := q vs s'
    rw [hv] at q1; cases q1
    rw [Nat.zero_add]
    exact pair_ok rh nT (.int _) (rd.mono x _ _)
theorem itOk_zip {m n : Nat} {p q : Addr} (ep : α[m]? = some p) (eq : α[n]? = some q) : ItOk K α (.zip m n) (Itz K p q) H0 := fun α' h' H' x rh i => by
  simp only [turn]
  cases e : seqAt h' m with
  | none => trivial
  | some xs =>
    cases f : seqAt h' n with
    | none => trivial
    | some ys =>
      obtain ⟨vs, s, r⟩ := seq_later x rh ep e
      obtain ⟨ws, t, r'⟩ := seq_later x rh eq f
      simp only
      cases e1 : xs[i]? with
      | none => exact ⟨vs, ws, s, t, .inl (by rw [← r.length]; exact List.getElem?_eq_none_iff.mp e1)⟩
      | some a =>
        cases e2 : ys[i]? with
        | none => exact ⟨vs, ws, s, t, .inr (by rw [← r'.length]; exact List.getElem?_eq_none_iff.mp e2)⟩
        | some b =>
          obtain ⟨v, hv, rd⟩ := r.get e1
          obtain ⟨w, hw, rd'⟩ := r'.get e2
          refine ⟨⟨vs, ws, v, w, s, t, hv, hw⟩, fun y H'' hy => ?_⟩
          obtain ⟨T, v', w', rfl, nT, rfl, z1, z2⟩ := hy
          have q1 := z1 vs s
          rw [hv] at q1; cases q1
          have q2 := z2 ws t
          rw [hw] at q2; cases q2
          exact pair_ok rh nT rd rd'
theorem itOk_zipT {p q : Addr} {xs ys : List D} {vs ws : List V} (s : L2.SqT K H0 p vs) (r : RDs K α H0 xs vs) (t : L2.SqT K H0 q ws) (r' : RDs K α H0 ys ws) :
    ItOk K α (.items (List.zipWith (fun a b => D.tup [a, b]) xs ys)) (RZ.ItzT K p q) H0 := fun α' h' H' x rh i => by
  have s' := x.keep _ _ s
  have t' := x.keep _ _ t
  show match some (List.zipWith (fun a b => D.tup [a, b]) xs ys)[i]? with | none => True | some none => _ | some (some d) => _
  rw [List.getElem?_zipWith]
  cases e1 : xs[i]? with
  | none => exact ⟨vs, ws, s', t', .inl (by rw [← r.length]; exact List.getElem?_eq_none_iff.mp e1)⟩
  | some a =>
    cases e2 : ys[i]? with
    | none => exact ⟨vs, ws, s', t', .inr (by rw [← r'.length]; exact List.getElem?_eq_none_iff.mp e2)⟩
    | some b =>
      obtain ⟨v, hv, rd⟩ := r.get e1
      obtain ⟨w, hw, rd'⟩ := r'.get e2
      refine ⟨⟨vs, ws, v, w, s', t', hv, hw⟩, fun y H'' hy => ?_⟩
      obtain ⟨T, v', w', rfl, nT, rfl, z1, z2⟩ := hy
      have q1 := z1 vs s'
      rw [hv] at q1; cases q1
      have q2 := z2 ws t'
      rw [hw] at q2; cases q2
      exact pair_ok rh nT (rd.mono x _ _) (rd'.mono x _ _)
theorem itOk_rev {n : Nat} {p : Addr} {len : Nat} (ep : α[n]? = some p) : ItOk K α (.rev n len) (Itv K p len) H0 := fun α' h' H' x rh i => by
  simp only [turn]
  cases e : seqAt h' n with
  | none => trivial
  | some ds =>
    obtain ⟨vs, s, r⟩ := seq_later x rh ep e
    simp only
    by_cases hl : ds.length = len
    · rw [if_pos hl]
      by_cases hi : i < len
      · rw [if_pos hi]
        have hlt : len - 1 - i < ds.length := by omega
        rw [List.getElem?_eq_getElem hlt]
        obtain ⟨v, hv, rd⟩ := r.get (List.getElem?_eq_getElem hlt)
        refine ⟨⟨hi, vs, v, s, hv⟩, fun y H'' hy => ?_⟩
        obtain ⟨rfl, q⟩ := hy
        have q1 := q vs s
        rw [hv] at q1; cases q1
        exact ⟨.refl, rh, rd⟩
      · rw [if_neg hi]; exact Nat.le_of_not_lt hi
    · rw [if_neg hl]; trivial
theorem itOk_revT {p : Addr} {ds : List D} {vs : List V} (s : L2.SqT K H0 p vs) (r : RDs K α H0 ds vs) : ItOk K α (.items ds.reverse) (RT.ItvT K p vs.length) H0 := fun α' h' H' x rh i => by
  have s' := x.keep _ _ s
  show match some ds.reverse[i]? with | none => True | some none => _ | some (some d) => _
  by_cases hi : i < vs.length
  · have hi' : i < ds.length := by rw [r.length]; exact hi
    rw [List.getElem?_reverse hi', r.length]
    have hlt : vs.length - 1 - i < ds.length := by rw [r.length]; omega
    rw [List.getElem?_eq_getElem hlt]
    obtain ⟨v, hv, rd⟩ := r.get (List.getElem?_eq_getElem hlt)
    refine ⟨⟨hi, vs, v, s', hv⟩, fun y H'' hy => ?_⟩
    obtain ⟨rfl, q⟩ := hy
    have q1 := q vs s'
    rw [hv] at q1; cases q1
    exact ⟨.refl, rh, rd.mono x _ _⟩
  · rw [List.getElem?_eq_none (by simp [r.length]; omega)]
    exact Nat.le_of_not_lt hi
end
end Z
set_option maxHeartbeats 4000000
/-! Z6: the row's syntax read as compact syntax. -/
namespace Z
open PySem
def okName (x : Str) : Bool := !(x == ("__debug__" : Str)) && !(x == ("__classdict__" : Str))
def visB (sc : Scope) (x : Str) : Bool := match sc.names.lookup x with
  | some .local => true | some .cell => true | some .free => true | _ => false
def locB (sc : Scope) (x : Str) : Bool := match sc.names.lookup x with
  | some .local => true | some .cell => true | _ => false
def onlyLoc (sc : Scope) (x : Str) : Bool := match sc.names.lookup x with
  | some .local => true | _ => false
def glB (sc : Scope) (x : Str) : Bool := match sc.names.lookup x with
  | some .globalImplicit => true | _ => false
/-- an expression that stands as such: no star, no slice, no set, no lambda .. -/
def okE : Expr → Bool
  | .BoolOp .. => true | .BinOp .. => true | .UnaryOp .. => true | .IfExp .. => true | .Dict .. => true | .ListComp .. => true | .Compare .. => true | .Call .. => true
  | .Constant .. => true | .Attribute .. => true | .Subscript .. => true | .Name .. => true | .List .. => true | .Tuple .. => true
  | _ => false
def isComp : Expr → Bool
  | .ListComp .. => true | .SetComp .. => true | .DictComp .. => true | _ => false
def scalar : D → Bool
  | .non => true | .bl _ => true | .int _ => true | .str _ => true | _ => false
def biOf (x : Str) : Option Bi :=
  if x = "len" then some .len else if x = "abs" then some .abs else if x = "int" then some .int else if x = "max" then some .mx else if x = "min" then some .mn else if x = "sum" then some .sum else
  if x = "any" then some .any else if x = "all" then some .all else if x = "tuple" then some .tuple else if x = "list" then some .list else if x = "sorted" then some .sorted else if x = "repr" then some .repr else none
def biName : Bi → Str
  | .len => "len" | .abs => "abs" | .int => "int" | .mx => "max" | .mn => "min" | .sum => "sum" | .any => "any" | .all => "all" | .tuple => "tuple" | .list => "list" | .sorted => "sorted" | .repr => "repr"
def tyOf (x : Str) : Option Ty :=
  if x = "int" then some .int else if x = "bool" then some .bool else if x = "str" then some .str else if x = "tuple" then some .tuple else if x = "list" then some .list else if x = "dict" then some .dict else none
def mtOf (x : Str) : Option Mt := if x = "append" then some .append else if x = "extend" then some .extend else if x = "pop" then some .pop else none
def mtName : Mt → Str
  | .append => "append" | .extend => "extend" | .pop => "pop"
def opBack : Operator → Option Op
  | .Add => some .add | .Sub => some .sub | .Mult => some .mul | .Mod => some .mod | .FloorDiv => some .fdiv | .Pow => some .pow | _ => none
def cpBack : CmpOp → Option Cp
  | .Eq => some .eq | .NotEq => some .ne | .Lt => some .lt | .LtE => some .le | .Gt => some .gt | .GtE => some .ge | .In => some .isIn | .NotIn => some .notIn | .Is => some .is | .IsNot => some .isnt
def ix? (N : List Str) (x : Str) : Option Nat := (List.range N.length).find? fun i => decide (N[i]? = some x)
def fnIx (T : Tbl) (x : Str) : Option Nat := (List.range T.fns.length).find? fun i => match T.fns[i]? with | some F => decide (F.name = x) | none => false
def isCall0 : Expr → Bool
  | .Call (.Name _ _) [] [] _ => true | _ => false
/-- the names of a comprehension's own -/
def ownOf (N : List Str) (scope : Scope) : List (Str × Nat) := scope.names.filterMap fun y => match y.2 with
  | .local => (ix? N y.1).map fun i => (y.1, i)
  | .cell => (ix? N y.1).map fun i => (y.1, i)
  | _ => none
def tgOwn (own : List Nat) : Nat → T → Bool
  | 0, _ => false
  | _ + 1, .name i => own.contains i
  | n + 1, .tup ts => ts.all (tgOwn own n)
  | _ + 1, _ => false
section
variable (B : Tbl) (N : List Str)
/-- targets; rec reads expressions -/
def trT (ck : Str → Bool) (rec : Scope → Expr → Option M) : Nat → Scope → Expr → Option T
  | 0, _, _ => none
  | n + 1, sc, e => match e with
    | .Name x _ => if (onlyLoc sc x || (locB sc x && ck x)) = true then (ix? N x).map .name else none
    | .Tuple es _ _ => (mapO (trT ck rec n sc) es).map .tup
    | .Subscript o i _ => if okE i = true then (match rec sc o, rec sc i with
      | some a, some b => some (.sub a b)
      | _, _ => none) else none
    | _ => none
def trI (rec : Scope → Expr → Option M) (sc : Scope) (tup : Bool) (e : Expr) : Option I := match e with
  | .Call (.Name f _) args [] _ => if glB sc f = true then
      (if f = "range" then (match args with
        | [a] => (rec sc a).map fun x => .range [x]
        | [a, b] => (match rec sc a, rec sc b with | some x, some y => some (.range [x, y]) | _, _ => none)
        | _ => none)
      else if f = "enumerate" then (match args with
        | [a] => if tup = true then (rec sc a).map .enum else none
        | _ => none)
      else if f = "zip" then (match args with
        | [a, b] => if tup = true then (match rec sc a, rec sc b with | some x, some y => some (.zip x y) | _, _ => none) else none
        | _ => none)
      else if f = "reversed" then (match args with
        | [a] => (rec sc a).map .rev
        | _ => none)
      else (rec sc e).map .of) else none
  | e => (rec sc e).map .of
def isTup : Expr → Bool
  | .Tuple .. => true | _ => false
def trE : Nat → Scope → Expr → Option M
  | 0, _, _ => none
  | n + 1, sc, e => match e with
    | .Constant (.int i) _ _ => some (.cst (.int i))
    | .Constant (.str x) _ _ => some (.cst (.str x))
    | .Constant (.bool b) _ _ => some (.cst (.bl b))
    | .Constant .none _ _ => some (.cst .non)
    | .Name x _ => if okName x = true then (if visB sc x = true then (ix? N x).map .var else if glB sc x = true then (match B.consts.lookup x with | some _ => some (.glb x) | none => none) else none) else none
    | .Tuple es _ _ => (mapO (trE n sc) es).map .tup
    | .List es _ => (mapO (trE n sc) es).map .lst
    | .Dict [] [] _ => some .dnew
    | .BinOp a o b _ => (match opBack o, trE n sc a, trE n sc b with
      | some o, some x, some y => some (.op o x y)
      | _, _, _ => none)
    | .UnaryOp .USub a _ => (trE n sc a).map .neg
    | .UnaryOp .Not a _ => (trE n sc a).map .not
    | .Compare a [c] [b] _ => (match cpBack c, trE n sc a, trE n sc b with
      | some c, some x, some y => some (.cmp c x y)
      | _, _, _ => none)
    | .Compare a [c, c'] [b, d] _ => (match cpBack c, cpBack c', trE n sc a, trE n sc b, trE n sc d with
      | some c, some c', some x, some y, some z => some (.chain c c' x y z)
      | _, _, _, _, _ => none)
    | .BoolOp _ [a] _ => (trE n sc a).map .one
    | .BoolOp .And (a :: b :: r) p => (match trE n sc a, trE n sc (.BoolOp .And (b :: r) p) with
      | some x, some y => some (.and x y)
      | _, _ => none)
    | .BoolOp .Or (a :: b :: r) p => (match trE n sc a, trE n sc (.BoolOp .Or (b :: r) p) with
      | some x, some y => some (.or x y)
      | _, _ => none)
    | .IfExp t a b _ => (match trE n sc t, trE n sc a, trE n sc b with
      | some t, some x, some y => some (.ite t x y)
      | _, _, _ => none)
    | .Subscript a (.Slice none none none _) _ => (trE n sc a).map fun x => .slc x none none
    | .Subscript a (.Slice (some l) none none _) _ => (match trE n sc a, trE n sc l with
      | some x, some y => some (.slc x (some y) none)
      | _, _ => none)
    | .Subscript a (.Slice none (some u) none _) _ => (match trE n sc a, trE n sc u with
      | some x, some y => some (.slc x none (some y))
      | _, _ => none)
    | .Subscript a (.Slice (some l) (some u) none _) _ => (match trE n sc a, trE n sc l, trE n sc u with
      | some x, some y, some z => some (.slc x (some y) (some z))
      | _, _, _ => none)
    | .Subscript a i _ => if okE i = true then (match trE n sc a, trE n sc i with
      | some x, some y => some (.ix x y)
      | _, _ => none) else none
    | .Call (.Name f _) args [] _ => if okName f = true ∧ glB sc f = true then (match fnIx B f with
      | some i => (mapO (trE n sc) args).map fun ms => .call i ms
      | none => (match args with
        | [.Call (.Name g _) (a :: r) [] _] => if g = "range" ∧ glB sc g = true ∧ (f = "tuple" ∨ f = "list") ∧ r.length ≤ 1 then (match biOf f, mapO (trE n sc) (a :: r) with
            | some b, some ms => some (.rng b ms)
            | _, _ => none) else (match biOf f, mapO (trE n sc) args with
            | some b, some ms => some (.bi b ms)
            | _, _ => none)
        | [a, .Name t _] => if f = "isinstance" then (if glB sc t = true then (match tyOf t, trE n sc a with
            | some ty, some x => some (.isi x ty)
            | _, _ => none) else none) else (match biOf f, mapO (trE n sc) args with
            | some b, some ms => some (.bi b ms)
            | _, _ => none)
        | a :: r => (match biOf f, mapO (trE n sc) (a :: r) with
            | some b, some ms => some (.bi b ms)
            | _, _ => none)
        | [] => none)) else none
    | .Call (.Attribute o m apos) args [] cpos => if isCall0 o = false ∧ (apos.endLine == cpos.line) = true then (match mtOf m, trE n sc o, mapO (trE n sc) args with
      | some m, some x, some ms => if ms.length ≤ 1 then some (.mt m x ms) else none
      | _, _, _ => none) else none
    | .ListComp elt [⟨tg, iter, ifs, 0⟩] scope _ =>
      let own := ownOf N scope
      let sc' := L2.relS scope sc
      if L2.blkC N sc scope own = true then (match trI (trE n) sc (isTup tg) iter, trT N (fun x => scope.names.lookup x == some .cell) (trE n) n sc' tg, trE n sc' elt with
        | some it, some t, some m => if okE iter = true ∧ tgOwn (own.map (·.2)) n t = true then (match ifs with
          | [] => some (.lc (own.map (·.2)) it t none m)
          | [c] => (trE n sc' c).map fun c => .lc (own.map (·.2)) it t (some c) m
          | _ => none) else none
        | _, _, _ => none) else none
    | _ => none
/-- y = [..]: whether the store is exchanged -/
def swB (sc : Scope) (y : Str) (py pos : Pos) (scope : Scope) : Bool := onlyLoc sc y && (py.line == pos.line) && !(scope.names.any fun (n, k) => n == y && (k == .local || k == .cell))
def pairNames (sc : Scope) (ts : List Expr) : List Str := let line := (ts.head?.map (·.pos.line)).getD 0; ts.filterMap fun
    | .Name id pos => if onlyLoc sc id && pos.line == line then some id else none
    | _ => none
/-- a, b = c, d: the names, if they are stored from the right -/
def parB (sc : Scope) (ts vs : List Expr) : Bool := (ts.length == 2 || ts.length == 3) && vs.length == ts.length && (pairNames sc ts).length == ts.length && (pairNames sc ts).eraseDups.length == ts.length && !(vs.all (foldedForSure 8)) && !(vs.all (constantsAlone 8)) && vs.all okE
/-- .. if they are not -/
def noParB (sc : Scope) (ts vs : List Expr) : Bool := vs.all okE && ((pairNames sc ts).length != ts.length || vs.all (foldedForSure 8) || vs.length != ts.length)
def trS : Nat → Scope → Stmt → S
  | 0, _, _ => .bad
  | n + 1, sc, s => match s with
    | .Return none _ => .retN
    | .Return (some e) _ => (match trE B N n sc e with | some m => .ret m | none => .bad)
    | .Expr e _ => if isComp e = true then .bad else (match trE B N n sc e with | some m => .expr m | none => .bad)
    | .Pass _ => .pass
    | .Break _ => .brk
    | .Continue _ => .cont
    | .If t a b _ => (match trE B N n sc t with | some m => .iff m (a.map (trS n sc)) (b.map (trS n sc)) | none => .bad)
    | .While t b [] _ => (match trE B N n sc t with | some m => .whl m (b.map (trS n sc)) | none => .bad)
    | .For t i b [] _ => (match trT N (fun _ => true) (trE B N n) n sc t, trI (trE B N n) sc (isTup t) i with
      | some t, some it => if okE i = true then .for_ t it (b.map (trS n sc)) else .bad
      | _, _ => .bad)
    | .AugAssign (.Name x _) o e _ => if locB sc x = true then (match ix? N x, opBack o, trE B N n sc e with
      | some i, some .add, some m => .aug i .add m
      | some i, some .sub, some m => .aug i .sub m
      | _, _, _ => .bad) else .bad
    | .Assign [t] e _ => (match t, e with
      | .Tuple ts _ _, .Tuple vs _ _ =>
        if parB sc ts vs = true then (match mapO (ix? N) (pairNames sc ts), mapO (trE B N n sc) vs with
          | some is, some ms => if is.length = ts.length then .par is ms else .bad
          | _, _ => .bad)
        else if noParB sc ts vs = true then (match trT N (fun _ => true) (trE B N n) n sc t, trE B N n sc e with
          | some t, some m => .asg t m
          | _, _ => .bad)
        else .bad
      | t, e => (match trT N (fun _ => true) (trE B N n) n sc t, trE B N n sc e with
          | some t, some m => .asg t m
          | _, _ => .bad))
    | _ => .bad
end
end Z
set_option maxHeartbeats 4000000
/-! Z7: what the syntax shows; the readings. -/
namespace Z
open PySem PySem.Spec PyProof.Rows L2
/-! ### syntax -/
theorem star_cons {e : Expr} {es : List Expr} {env : Env} (h : okE e = true) : starEach (e :: es) env = (false, eval e env) :: starEach es env := by
  cases e <;> first | rfl | cases h
theorem star_plain {pos : Pos} {env : Env} : ∀ {es : List Expr}, (∀ e ∈ es, okE e = true) → (backTo pos (starEach es env)).any (·.1) = false
  | [], _ => rfl
  | e :: es, h => by
    rw [star_cons (h e List.mem_cons_self)]
    have ih := star_plain (pos := pos) (env := env) (es := es) fun x hx => h x (List.mem_cons_of_mem _ hx)
    unfold backTo at ih ⊢
    rw [List.map_cons, List.any_cons, ih]
    rfl
theorem star_all {pos : Pos} {env : Env} : ∀ {es : List Expr}, (∀ e ∈ es, okE e = true) → (backTo pos (starEach es env)).all (fun x => !x.1) = true
  | [], _ => rfl
  | e :: es, h => by
    rw [star_cons (h e List.mem_cons_self)]
    have ih := star_all (pos := pos) (env := env) (es := es) fun x hx => h x (List.mem_cons_of_mem _ hx)
    unfold backTo at ih ⊢
    rw [List.map_cons, List.all_cons, ih]
    rfl
theorem sw_false {e : Expr} {t : Option Expr} {l : Nat} {env : Env} (h : isComp e = false) : swapsWith e t l env = pure false := by
  cases e <;> first | rfl | cases h
theorem sw_notName {e t : Expr} {l : Nat} {env : Env} (h : ∀ x p, t ≠ .Name x p) : swapsWith e (some t) l env = pure false := by
  cases t <;> first | exact absurd rfl (h _ _) | (cases e <;> rfl)
theorem folded_ok {e : Expr} {env : Env} (h : okE e = true) : ∀ x, foldedSetIterable e env x = pure x := fun x => by
  cases e <;> first | rfl | cases h
theorem behind_ok {e : Expr} {op : CmpOp} (h : okE e = true) : behindInMarks op e = false := by
  cases e <;> first | rfl | cases h
theorem ix_plain {e : Expr} (h : okE e = true) : ∀ o i, subscripted e false o i = operate [o, i] (getItem o i) := fun o i => by
  cases e <;> first | rfl | cases h
theorem base_ok {o : Expr} {m : Str} {env : Env} {w : Sem Value} (h : isCall0 o = false) : attributeBase o m env w = w := by
  cases o with
  | Call f args kws pos =>
    cases f with
    | Name x p =>
      cases args with
      | nil =>
        cases kws with
        | nil => cases h
        | cons => rfl
      | cons => rfl
    | _ => rfl
  | _ => rfl
theorem tr_ok {B : Tbl} {N : List Str} {n : Nat} {sc : Scope} {e : Expr} {m : M} (h : trE B N n sc e = some m) : okE e = true := by
  cases n with
  | zero => simp [trE] at h
  | succ n => cases e <;> first | rfl | (simp [trE] at h)
theorem trs_ok {B : Tbl} {N : List Str} {n : Nat} {sc : Scope} : ∀ {es : List Expr} {ms : List M}, mapO (trE B N n sc) es = some ms → ∀ e ∈ es, okE e = true
  | [], _, _ => fun _ h => nomatch h
  | e :: es, ms, h => by
    unfold mapO at h
    split at h
    · rename_i b bs h1 h2
      intro x hx
      rcases List.mem_cons.mp hx with rfl | hx
      · exact tr_ok h1
      · exact trs_ok h2 x hx
    · cases h
theorem mapO_cons {α β : Type} {f : α → Option β} {a : α} {r : List α} {bs : List β} (h : mapO f (a :: r) = some bs) : ∃ b cs, f a = some b ∧ mapO f r = some cs ∧ bs = b :: cs := by
  unfold mapO at h
  split at h
  · rename_i b cs h1 h2; cases h; exact ⟨b, cs, h1, h2, rfl⟩
  · cases h
theorem mapO_nil {α β : Type} {f : α → Option β} {bs : List β} (h : mapO f [] = some bs) : bs = [] := by
  unfold mapO at h; cases h; rfl
theorem mapO_len {α β : Type} {f : α → Option β} : ∀ {as : List α} {bs : List β}, mapO f as = some bs → bs.length = as.length
  | [], _, h => by rw [mapO_nil h]; rfl
  | a :: r, bs, h => by
    obtain ⟨b, cs, h1, h2, rfl⟩ := mapO_cons h
    simp [mapO_len h2]
theorem vis_of {sc : Scope} {x : Str} (h : visB sc x = true) : L2.Vis sc x := by
  unfold visB at h
  unfold L2.Vis
  revert h
  cases sc.names.lookup x with
  | none => intro h; cases h
  | some k => cases k <;> intro h <;> first | exact .inl rfl | exact .inr (.inl rfl) | exact .inr (.inr rfl) | cases h
theorem loc_of {sc : Scope} {x : Str} (h : locB sc x = true) : L2.Loc sc x := by
  unfold locB at h
  unfold L2.Loc
  revert h
  cases sc.names.lookup x with
  | none => intro h; cases h
  | some k => cases k <;> intro h <;> first | exact .inl rfl | exact .inr rfl | cases h
theorem only_of {sc : Scope} {x : Str} (h : onlyLoc sc x = true) : sc.names.lookup x = some .local := by
  unfold onlyLoc at h
  revert h
  cases sc.names.lookup x with
  | none => intro h; cases h
  | some k => cases k <;> intro h <;> first | rfl | cases h
theorem gl_of {X : L2.Cx} {x : Str} (h : glB X.env.scope x = true) : L2.Gl X x := by
  unfold glB at h
  show X.env.scope.names.lookup x = some .globalImplicit
  revert h
  cases X.env.scope.names.lookup x with
  | none => intro h; cases h
  | some k => cases k <;> intro h <;> first | rfl | cases h
theorem ix_of {N : List Str} {x : Str} {i : Nat} (h : ix? N x = some i) : N[i]? = some x := by
  unfold ix? at h
  have z := List.find?_some h
  simpa using z
theorem fnIx_of {T : Tbl} {x : Str} {i : Nat} (h : fnIx T x = some i) : ∃ F, T.fns[i]? = some F ∧ F.name = x := by
  unfold fnIx at h
  have := List.find?_some h
  revert this
  cases T.fns[i]? with
  | none => intro q; cases q
  | some F => intro q; exact ⟨F, rfl, of_decide_eq_true q⟩
theorem okName_of {x : Str} (h : okName x = true) : (x == ("__debug__" : Str)) = false ∧ (x == ("__classdict__" : Str)) = false := by
  unfold okName at h
  simp only [Bool.and_eq_true, Bool.not_eq_true'] at h
  exact h
theorem biOf_ok {x : Str} {b : Bi} (h : biOf x = some b) : x = biName b := by
  unfold biOf at h
  repeat' split at h
  all_goals first | (cases h; assumption) | cases h
theorem bi_boot (b : Bi) : bootBuiltins (biName b) = some (biF b) := by cases b <;> decide +kernel
theorem bi_name (b : Bi) : biName b ≠ "__name__" ∧ (biName b == ("__debug__" : Str)) = false := by cases b <;> decide +kernel
theorem tyOf_ok {x : Str} {t : Ty} (h : tyOf x = some t) : x = PySem.Str.ofString (tyName t) := by
  unfold tyOf at h
  repeat' split at h
  all_goals first | (cases h; assumption) | cases h
theorem ty_boot (t : Ty) : bootBuiltins (PySem.Str.ofString (tyName t)) = some (.type (tyName t)) := by cases t <;> decide +kernel
theorem ty_name (t : Ty) : PySem.Str.ofString (tyName t) ≠ "__name__" ∧ (PySem.Str.ofString (tyName t) == ("__debug__" : Str)) = false := by cases t <;> decide +kernel
theorem mtOf_ok {x : Str} {m : Mt} (h : mtOf x = some m) : x = mtName m := by
  unfold mtOf at h
  repeat' split at h
  all_goals first | (cases h; assumption) | cases h
theorem opBack_ok {o : Operator} {p : Op} (h : opBack o = some p) : o = opOf p := by
  cases o <;> simp [opBack] at h <;> subst h <;> rfl
theorem cpBack_ok {o : CmpOp} {p : Cp} (h : cpBack o = some p) : o = cpOf p := by
  cases o <;> simp [cpBack] at h <;> subst h <;> rfl

/-! ### the module's facts -/
/-- a def of the table, as it stands behind the top -/
structure FnAt (K : Frag) (mg : Str → Option Value) (F : Fn) (f : Addr) (fd : FuncData) : Prop where
  mg : mg F.name = some (.ref f)
  fn : L2.Fun K F.name F.name F.st f fd
  binds : L2.Binds K fd F.ps []
def scalV (d : D) (v : V) : Prop := match d with
  | .non => v = .non | .bl b => v = .bl b | .int i => v = .int i | .str x => v = .str x | _ => False
theorem scal_rd {K : Frag} {α : List Addr} {H : Hp} {d : D} {v : V} (h : scalV d v) : RD K α H d v := by
  cases d <;> first | exact h.elim | (have e := h; unfold scalV at e; subst e; constructor)
/-- built-in names that the text leaves as they are -/
def bltNames : List Str := ["len", "abs", "int", "max", "min", "sum", "any", "all", "tuple", "list", "sorted", "repr", "range", "enumerate", "zip", "reversed", "isinstance", "bool", "str", "dict"]
structure Facts (T : Tbl) (K : Frag) (mg : Str → Option Value) : Prop where
  fns : ∀ (i : Nat) (F : Fn), T.fns[i]? = some F → ∃ f fd, FnAt K mg F f fd
  consts : ∀ x d, T.consts.lookup x = some d → ∃ u v, mg x = some u ∧ L2.RelV v u ∧ scalV d v
  blt : ∀ x ∈ bltNames, mg x = none
/-- what the table says of each def's text -/
def TOk (T : Tbl) : Prop := ∀ (i : Nat) (F : Fn), T.fns[i]? = some F → L2.FnScope F.N F.ps (L2.defScope F.st) ∧ ∃ fuel, (L2.defBody F.st).map (trS T F.N fuel (L2.defScope F.st)) = F.body
theorem bi_blt (b : Bi) : biName b ∈ bltNames := by cases b <;> decide +kernel
theorem ty_blt (t : Ty) : PySem.Str.ofString (tyName t) ∈ bltNames := by cases t <;> decide +kernel

/-! ### where one stands -/
structure Good (T : Tbl) (k : Nat) (X : L2.Cx) : Prop where
  calm : X.calm = true
  nd : X.N.Nodup
  xe : X.xe = fun _ _ => False
  room : L2.Room k X.A
  gd : X.A.guards = some []
  facts : Facts T X.K X.mg
theorem Good.hu {T : Tbl} {k : Nat} {X : L2.Cx} (g : Good T k X) : X.A.units + 66 < cLine := by have := g.room.un; omega
theorem Good.blk {T : Tbl} {k : Nat} {X : L2.Cx} (g : Good T k X) (s : Shared) (H : Hp) (scope : Scope) (ce : Env) (fp : List Addr) : Good T k (X.blk s H scope ce fp) := ⟨g.calm, g.nd, rfl, g.room, g.gd, g.facts⟩
theorem Good.own {T : Tbl} {k : Nat} {X : L2.Cx} (g : Good T k X) : PassesOwn (model X.prog X.w) X.A X.env X.xe := by rw [g.xe]; exact PassesOwn.never

/-! ### the readings -/
def RS (K : Frag) (α : List Addr) (ρ : Lo) (h : Hq) (σ : L2.St) (H : Hp) : Prop := RH K α h H ∧ ∀ (i : Nat) (d : D), ρ[i]? = some (some d) → ∃ v, σ[i]? = some (some v) ∧ RD K α H d v
theorem RS.mono {K : Frag} {α α' : List Addr} {ρ : Lo} {h h' : Hq} {σ : L2.St} {H H' : Hp} (r : RS K α ρ h σ H) (x : XE K α H α' H') (rh : RH K α' h' H') : RS K α' ρ h' σ H' :=
  ⟨rh, fun i d e => let ⟨v, h1, h2⟩ := r.2 i d e; ⟨v, h1, h2.mono x⟩⟩
theorem Kv.mono {K : Frag} {α α' : List Addr} {H H' : Hp} {h' : Hq} {d : D} {Q : L2.VK} (k : Kv K α H h' d Q) (x : XE K α H α' H') : Kv K α' H' h' d Q := fun α2 v H2 x2 => k α2 v H2 (x.trans x2)
theorem RS.set {K : Frag} {α : List Addr} {ρ : Lo} {h : Hq} {σ : L2.St} {H : Hp} {d : D} {v : V} (r : RS K α ρ h σ H) (i : Nat) (rd : RD K α H d v) (hi : i < σ.length) : RS K α (ρ.set i (some d)) h (σ.set i (some v)) H :=
  ⟨r.1, fun j e he => by
    by_cases hj : i = j
    · subst hj
      refine ⟨v, List.getElem?_set_self hi, ?_⟩
      have hl : i < ρ.length := by
        have := (List.getElem?_eq_some_iff.mp he).1
        rwa [List.length_set] at this
      rw [List.getElem?_set_self hl] at he
      cases he
      exact rd
    · rw [List.getElem?_set_ne hj] at he
      rw [List.getElem?_set_ne hj]
      exact r.2 j e he⟩
section
variable (T : Tbl) (n k : Nat)
def gE (m : M) (K : Frag) : L2.TE := fun σ H Q => ∃ ρ h d h' α, run T n (.ex k m ρ h) = some (.val d h') ∧ RS K α ρ h σ H ∧ Kv K α H h' d Q
def gEs (ms : List M) (K : Frag) : L2.TA := fun σ H Q => ∃ ρ h ds h' α, run T n (.exs k ms ρ h) = some (.vals ds h') ∧ RS K α ρ h σ H ∧ ∀ α' vs H', XE K α H α' H' → RH K α' h' H' → RDs K α' H' ds vs → Q vs H'
def gT (m : M) (K : Frag) : L2.TT := fun σ H Q => ∃ ρ h b h' α, run T n (.ts k m ρ h) = some (.tst b h') ∧ RS K α ρ h σ H ∧ ∀ α' H', XE K α H α' H' → RH K α' h' H' → Q b H'
def gI (i : I) (K : Frag) : L2.TI := fun σ H Q => ∃ ρ h w h' α, run T n (.it k i ρ h) = some (.itr w h') ∧ RS K α ρ h σ H ∧ ∀ α' H' J, XE K α H α' H' → RH K α' h' H' → ItOk K α' w J H' → Q J H'
def gA (t : Z.T) (K : Frag) : L2.TG := fun v σ H Q => ∃ ρ h d ρ' h' α, run T n (.as k t d ρ h) = some (.nx ρ' h') ∧ RS K α ρ h σ H ∧ RD K α H d v ∧
  ∀ α' σ' H', XE K α H α' H' → RS K α' ρ' h' σ' H' → (∀ (own : List Nat) f, tgOwn own f t = true → L2.wipe σ' own = L2.wipe σ own) → Q σ' H'
def gAs (ts : List Z.T) (K : Frag) : L2.TGs := fun vs σ H Q => ∃ ρ h ds ρ' h' α, run T n (.ass k ts ds ρ h) = some (.nx ρ' h') ∧ RS K α ρ h σ H ∧ RDs K α H ds vs ∧
  ∀ α' σ' H', XE K α H α' H' → RS K α' ρ' h' σ' H' → (∀ (own : List Nat) f, ts.all (tgOwn own f) = true → L2.wipe σ' own = L2.wipe σ own) → Q σ' H'
def After (K : Frag) (α : List Addr) (H : Hp) (r : R) (D : L2.Ends) : Prop := match r with
  | .nx ρ' h' => ∀ α' σ' H', XE K α H α' H' → RS K α' ρ' h' σ' H' → D.nx σ' H'
  | .brk ρ' h' => ∀ α' σ' H', XE K α H α' H' → RS K α' ρ' h' σ' H' → D.bk σ' H'
  | .cont ρ' h' => ∀ α' σ' H', XE K α H α' H' → RS K α' ρ' h' σ' H' → D.ct σ' H'
  | .ret d h' => Kv K α H h' d D.rt
  | _ => False
def gS (s : S) (K : Frag) : L2.TS := fun D σ H => ∃ ρ h r α, run T n (.st k s ρ h) = some r ∧ RS K α ρ h σ H ∧ After K α H r D
def gSs (ss : List S) (K : Frag) : L2.TS := fun D σ H => ∃ ρ h r α, run T n (.sts k ss ρ h) = some r ∧ RS K α ρ h σ H ∧ After K α H r D
def gC (f : Nat) (K : Frag) : L2.Sp := fun vs H Q _ => ∃ h ds d h' α, run T n (.call k f ds h) = some (.val d h') ∧ RH K α h H ∧ RDs K α H ds vs ∧ Kv K α H h' d Q
end
/-! ### a def called, under the guards' list -/
structure FnG (P : Program) (w : World) (K : Frag) (mg : Str → Option Value) (base : Heap) (k : Nat) (f : Addr) (fd : FuncData) (ps : List Str) (sp : L2.Sp) : Prop where
  len : ∀ vs H Q E, sp vs H Q E → vs.length = ps.length
  run : ∀ (A : Around) (outer : List Env) (s : Shared) (H : Hp) (args : Args) (us : List Value) (vs : List V) (Q : L2.VK), L2.Room k A → A.guards = some [] → L2.Env0 P w K mg base A outer s H → BindsTo s fd args (ps.zip us) → L2.Vals vs us → sp vs H Q L2.E0 →
    codeAny (model P w) A (.call (.ref f) args) (L2.CR L2.CX0 outer P w H s Q L2.E0) s
section
variable {X : L2.Cx} {k : Nat} {f : Addr} {fd : FuncData} {ps : List Str} {sp : L2.Sp} {x : Str} {p pos : Pos} {e : Expr} {es : List Expr} {t : L2.TA}
theorem run_g {pins : List (Addr × Obj)} {σ : L2.St} {H : Hp} {s : Shared} {Q : L2.VK} {us : List Value} {vs : List V} (F : FnG X.prog X.w X.K X.mg X.base k f fd ps sp) (hr : L2.Room k X.A) (hg : X.A.guards = some []) (hb : L2.Binds X.K fd ps [])
    (I : L2.Inv X pins σ H s) (r : L2.Vals vs us) (h : sp vs H Q L2.E0) : wpAny (model X.prog X.w) X.A (call (.ref f) us) (L2.EP X pins σ Q) X.xe s := by
  have len : (us ++ ([] : List Value)).length = ps.length := by rw [List.append_nil, ← r.length]; exact F.len _ _ _ _ h
  have bt := hb s us I.kIn len
  rw [List.append_nil] at bt
  refine wpAny_call (codeAny_mono (F.run X.A X.stack s H ⟨us, []⟩ us vs Q hr hg I.env0 bt r h) fun res s' hq => ?_)
  rcases res with err | fl
  · exact False.elim hq
  · cases fl <;> first | exact I.after hq | exact False.elim hq
theorem pe_callG (F : FnG X.prog X.w X.K X.mg X.base k f fd ps sp) (hr : L2.Room k X.A) (hgd : X.A.guards = some []) (hg : L2.Gl X x) (hm : X.mg x = some (.ref f)) (hk : PySem.W.keepIn X.K (.ref f) = true) (hb : L2.Binds X.K fd ps [])
    (ha : L2.PA X (e :: es) t) (hdb : (x == ("__debug__" : Str)) = false) (ho : ∀ y ∈ e :: es, okE y = true) : L2.PE X (.Call (.Name x p) (e :: es) [] pos) (fun σ H Q => t σ H fun vs H1 => sp vs H1 Q L2.E0) := by
  refine ⟨fun pins s σ H Q I h => wpAny_Call_Name_kw (L2.ld_glob I hg hm ?_ hdb)⟩
  exact PySem.W.callWith_K (h₀ := X.base) I.ok.mod.kin hk (L2.thn (ha.run pos pins s σ H _ I h) fun us s1 ⟨vs, H1, I1, r, q⟩ => ⟨I1.kIn, run_g F hr hgd hb I1 r q⟩) (star_cons (ho e List.mem_cons_self)) (star_plain fun y hy => ho y (List.mem_cons_of_mem _ hy))
theorem pe_callG0 (F : FnG X.prog X.w X.K X.mg X.base k f fd ps sp) (hr : L2.Room k X.A) (hgd : X.A.guards = some []) (hg : L2.Gl X x) (hm : X.mg x = some (.ref f)) (hk : PySem.W.keepIn X.K (.ref f) = true) (hb : L2.Binds X.K fd ps [])
    (hdb : (x == ("__debug__" : Str)) = false) : L2.PE X (.Call (.Name x p) [] [] pos) (fun σ H Q => sp [] H Q L2.E0) := by
  refine ⟨fun pins s σ H Q I h => wpAny_Call_Name_kw (L2.ld_glob I hg hm ?_ hdb)⟩
  exact PySem.W.callWith_K0 I.kIn hk (run_g (us := []) F hr hgd hb I .nil h)
/-- a def of the text, by its body -/
theorem fn_g {P : Program} {w : World} {K : Frag} {mg : Str → Option Value} {base : Heap} {qual : Str} {st : Stmt} {N : List Str} (F : L2.Fun K x qual st f fd) (S : L2.FnScope N ps (L2.defScope st)) (len : ∀ vs H Q E, sp vs H Q E → vs.length = ps.length)
    (body : ∀ (cd : Value) (A : Around) (outer : List Env) (s : Shared) (H : Hp) (vs : List V) (Q : L2.VK), L2.Room k (A.deeper (envOfC qual (L2.defScope st) s.heap.objs.size f cd)) → A.guards = some [] → sp vs H Q L2.E0 →
      ∃ t, L2.PSs (L2.cxOf L2.CX0 P w K mg base N qual (L2.defScope st) f cd A outer s H L2.E0).nox (L2.defBody st) t ∧ t { nx := fun _ H' => Q .non H', rt := Q } (L2.start N vs) H) : FnG P w K mg base (k + 1) f fd ps sp := by
  obtain ⟨oc, od, kV, doc, pm, an, cd, ct, osl, rfl, lk, hcd⟩ := F.ex
  refine ⟨len, fun A outer s H args us vs Q hr hgd e0 hb r hsp => ?_⟩
  have full := len _ _ _ _ hsp
  have up : ∀ b o, base.get? b = some o → s.heap.get? b = some o := fun b o e => (e0.bs b o e).1
  have KX : K.In s.heap := e0.mod.kin.keeps up
  have kinds : ∀ y ∈ ps.zip us, (L2.defScope st).names.lookup y.1 = some .local ∨ ((L2.defScope st).names.lookup y.1 = some .cell ∧ ((cellsFrom (s.heap.objs.size + 1) (L2.defScope st).names []).lookup y.1).isSome = true) := by
    rintro ⟨y, v⟩ hy
    rcases S.par y (List.of_mem_zip hy).1 with q | q
    · exact .inl q
    · exact .inr ⟨q, PySem.W.cellsFrom_some _ _ _ (.inl q)⟩
  refine codeAny_call_function hr.depth (KX _ _ lk) rfl S.co S.gen rfl (PySem.W.codeRec_of KX hcd) (hb _ _ _ _ ?_)
  refine wpAny_newFunctionEnv_cells S.kind kinds fun env he s1 ic => ?_
  subst he
  refine ⟨(e0.mod.nolimit.keeps up).keeps ic.toInCall.keep, codeAny_func ?_⟩
  obtain ⟨t, ht, hq⟩ := body cd A outer s H vs Q (hr.deeper _) hgd hsp
  have I := L2.inv_start (CX := L2.CX0) (P := P) (w := w) (E := L2.E0) S hr.hd e0 full r ic
  refine wpAny_mono (ht.nox.run [] s1 (L2.start N vs) H _ I hq) (fun fl s' hs => ?_) fun e s' hs => hs
  cases fl with
  | ret u => obtain ⟨v, σ', H', I', rv, q⟩ := hs; exact ⟨v, H', I'.os, I'.bare, I'.base, I'.hok, rv, q⟩
  | next => obtain ⟨σ', H', I', q⟩ := hs; exact ⟨.non, H', I'.os, I'.bare, I'.base, I'.hok, rfl, q⟩
  | brk => obtain ⟨_, _, _, q⟩ := hs; exact False.elim q
  | cont => obtain ⟨_, _, _, q⟩ := hs; exact False.elim q
end
end Z
set_option maxHeartbeats 8000000
/-! Z8: whatever the interpreter reckons, the layer's judgements hold: expressions. -/
namespace Z
open PySem PySem.Spec PyProof.Rows L2
section
variable {X : L2.Cx}
theorem pe_by {e : Expr} {t : L2.TE} (h : ∀ σ H Q, t σ H Q → ∃ u, L2.PE X e u ∧ u σ H Q) : L2.PE X e t := ⟨fun pins s σ H Q I q => let ⟨u, pu, qu⟩ := h σ H Q q; pu.run pins s σ H Q I qu⟩
theorem pt_by {e : Expr} {t : L2.TT} (h : ∀ σ H Q, t σ H Q → ∃ u, L2.PT X e u ∧ u σ H Q) : L2.PT X e t := ⟨fun pins s σ H Q I q => let ⟨u, pu, qu⟩ := h σ H Q q; pu.run pins s σ H Q I qu⟩
theorem pw_by {e : Expr} {t : L2.TT} (h : ∀ σ H Q, t σ H Q → ∃ u, L2.PW X e u ∧ u σ H Q) : L2.PW X e t := ⟨fun wh pins s σ H Q I q => let ⟨u, pu, qu⟩ := h σ H Q q; pu.run wh pins s σ H Q I qu⟩
theorem pa_by {e : List Expr} {t : L2.TA} (h : ∀ σ H Q, t σ H Q → ∃ u, L2.PA X e u ∧ u σ H Q) : L2.PA X e t := ⟨fun pos pins s σ H Q I q => let ⟨u, pu, qu⟩ := h σ H Q q; pu.run pos pins s σ H Q I qu⟩
theorem pi_by {tg e : Expr} {t : L2.TI} (h : ∀ σ H Q, t σ H Q → ∃ u, L2.PI X tg e u ∧ u σ H Q) : L2.PI X tg e t := ⟨fun pins s σ H Q I q => let ⟨u, pu, qu⟩ := h σ H Q q; pu.run pins s σ H Q I qu⟩
theorem ps_by {e : Stmt} {t : L2.TS} (h : ∀ D σ H, t D σ H → ∃ u, L2.PS X e u ∧ u D σ H) : L2.PS X e t := ⟨fun pins s σ H D I q => let ⟨u, pu, qu⟩ := h D σ H q; pu.run pins s σ H D I qu⟩
theorem pss_by {e : List Stmt} {t : L2.TS} (h : ∀ D σ H, t D σ H → ∃ u, L2.PSs X e u ∧ u D σ H) : L2.PSs X e t := ⟨fun pins s σ H D I q => let ⟨u, pu, qu⟩ := h D σ H q; pu.run pins s σ H D I qu⟩
end
theorem onV_some {a : Option R} {f : D → Hq → Option R} {r : R} (h : onV a f = some r) : ∃ d w, a = some (.val d w) ∧ f d w = some r := by
  cases a with
  | none => simp [onV] at h
  | some x => cases x <;> first | exact ⟨_, _, rfl, h⟩ | simp [onV] at h
theorem onVs_some {a : Option R} {f : List D → Hq → Option R} {r : R} (h : onVs a f = some r) : ∃ d w, a = some (.vals d w) ∧ f d w = some r := by
  cases a with
  | none => simp [onVs] at h
  | some x => cases x <;> first | exact ⟨_, _, rfl, h⟩ | simp [onVs] at h
theorem onB_some {a : Option R} {f : Bool → Hq → Option R} {r : R} (h : onB a f = some r) : ∃ d w, a = some (.tst d w) ∧ f d w = some r := by
  cases a with
  | none => simp [onB] at h
  | some x => cases x <;> first | exact ⟨_, _, rfl, h⟩ | simp [onB] at h
theorem onI_some {a : Option R} {f : It → Hq → Option R} {r : R} (h : onI a f = some r) : ∃ d w, a = some (.itr d w) ∧ f d w = some r := by
  cases a with
  | none => simp [onI] at h
  | some x => cases x <;> first | exact ⟨_, _, rfl, h⟩ | simp [onI] at h
theorem onN_some {a : Option R} {f : Lo → Hq → Option R} {r : R} (h : onN a f = some r) : ∃ d w, a = some (.nx d w) ∧ f d w = some r := by
  cases a with
  | none => simp [onN] at h
  | some x => cases x <;> first | exact ⟨_, _, rfl, h⟩ | simp [onN] at h
theorem toV_some {o : Option (D × Hq)} {d : D} {h : Hq} (e : toV o = some (.val d h)) : o = some (d, h) := by
  unfold toV at e
  simp only [Option.map_eq_some_iff] at e
  obtain ⟨⟨a, b⟩, e1, e2⟩ := e
  cases e2; exact e1
theorem toB_some {o : Option Bool} {d : D} {h h' : Hq} (e : toB h o = some (.val d h')) : ∃ b, o = some b ∧ d = .bl b ∧ h' = h := by
  unfold toB at e
  simp only [Option.map_eq_some_iff] at e
  obtain ⟨a, e1, e2⟩ := e
  cases e2; exact ⟨a, e1, rfl, rfl⟩
section
variable (T : Tbl) (n : Nat)
def OkE : Prop := ∀ (k : Nat) (X : L2.Cx), Good T k X → ∀ fuel e m, trE T X.N fuel X.env.scope e = some m → L2.PE X e (gE T n k m X.K)
def OkEs : Prop := ∀ (k : Nat) (X : L2.Cx), Good T k X → ∀ fuel es ms, mapO (trE T X.N fuel X.env.scope) es = some ms → L2.PA X es (gEs T n k ms X.K)
def OkT : Prop := ∀ (k : Nat) (X : L2.Cx), Good T k X → ∀ fuel e m, trE T X.N fuel X.env.scope e = some m → L2.PT X e (gT T n k m X.K) ∧ (∀ o vals pos, e = .BoolOp o vals pos → L2.PW X e (gT T n k m X.K))
def OkI : Prop := ∀ (k : Nat) (X : L2.Cx), Good T k X → ∀ fuel tg e i, trI (trE T X.N fuel) X.env.scope (isTup tg) e = some i → L2.PI X tg e (gI T n k i X.K)
def OkA : Prop := ∀ (k : Nat) (X : L2.Cx), Good T k X → ∀ (ck : Str → Bool), (∀ x, ck x = true → X.fn x = true) → ∀ fuel f2 e t, trT X.N ck (trE T X.N fuel) f2 X.env.scope e = some t → L2.PG X e (gA T n k t X.K)
def OkAs : Prop := ∀ (k : Nat) (X : L2.Cx), Good T k X → ∀ (ck : Str → Bool), (∀ x, ck x = true → X.fn x = true) → ∀ fuel f2 es ts, mapO (trT X.N ck (trE T X.N fuel) f2 X.env.scope) es = some ts → L2.PGs X es (gAs T n k ts X.K)
def OkS : Prop := ∀ (k : Nat) (X : L2.Cx), Good T k X → (∀ x, X.fn x = true) → ∀ fuel s, L2.PS X s (gS T n k (trS T X.N fuel X.env.scope s) X.K)
def OkSs : Prop := ∀ (k : Nat) (X : L2.Cx), Good T k X → (∀ x, X.fn x = true) → ∀ fuel ss, L2.PSs X ss (gSs T n k (ss.map (trS T X.N fuel X.env.scope)) X.K)
def OkC : Prop := ∀ (k : Nat) (P : Program) (w : World) (K : Frag) (mg : Str → Option Value) (base : Heap) (i : Nat) (F : Fn) (f : Addr) (fd : FuncData), Facts T K mg → T.fns[i]? = some F → FnAt K mg F f fd → FnG P w K mg base k f fd F.ps (gC T n k i K)
end
variable {T : Tbl} {n : Nat}
theorem gE_in {k : Nat} {m : M} {K : Frag} {σ : L2.St} {H : Hp} {Q : L2.VK} {ρ : Lo} {h h' : Hq} {d : D} {α : List Addr} (e : run T n (.ex k m ρ h) = some (.val d h')) (rs : RS K α ρ h σ H) (q : ∀ α' v H', XE K α H α' H' → RH K α' h' H' → RD K α' H' d v → Q v H') : gE T n k m K σ H Q :=
  ⟨ρ, h, d, h', α, e, rs, q⟩
theorem exs_nil {k : Nat} {ρ : Lo} {h h' : Hq} {ds : List D} (e : run T n (.exs k [] ρ h) = some (.vals ds h')) : ds = [] ∧ h' = h := by
  cases n with
  | zero => cases e
  | succ n => cases e; exact ⟨rfl, rfl⟩
theorem exs_cons {k : Nat} {m : M} {ms : List M} {ρ : Lo} {h h' : Hq} {ds : List D} (e : run T n (.exs k (m :: ms) ρ h) = some (.vals ds h')) :
    ∃ d es h1, ds = d :: es ∧ run T n (.ex k m ρ h) = some (.val d h1) ∧ run T n (.exs k ms ρ h1) = some (.vals es h') := by
  cases n with
  | zero => cases e
  | succ n =>
    obtain ⟨d, h1, e1, e2⟩ := onV_some (show onV _ _ = _ from e)
    obtain ⟨es, h2, e3, e4⟩ := onVs_some e2
    cases e4
    exact ⟨d, es, h1, rfl, run_succ e1, run_succ e3⟩
theorem op_false {X : L2.Cx} {f : Value → Value → Sem Value} : L2.OpR X f (fun _ _ _ _ => False) := fun _ _ _ _ _ _ _ _ _ _ _ _ h => h.elim
theorem pe_bi {X : L2.Cx} {T : Tbl} {k : Nat} (g : Good T k X) {b : Bi} {r : List V → Hp → L2.VK → Prop} {t : L2.TA} {p pos : Pos} {e : Expr} {es : List Expr} (hc : L2.CallR X (biF b) r) (hg : L2.Gl X (biName b)) (ha : L2.PA X (e :: es) t) (ho : ∀ y ∈ e :: es, okE y = true) :
    L2.PE X (.Call (.Name (biName b) p) (e :: es) [] pos) (L2.tCB r t) := by
  have hm := g.facts.blt _ (bi_blt b)
  have hv := bi_boot b
  obtain ⟨n1, n2⟩ := bi_name b
  have s1 := star_cons (env := X.env) (es := es) (ho e List.mem_cons_self)
  have s2 := star_plain (pos := pos) (env := X.env) (es := es) fun y hy => ho y (List.mem_cons_of_mem _ hy)
  cases b <;> first | exact L2.pe_callB hc hg hm hv ha n1 n2 s1 s2 | exact L2.pe_callTy hc hg hm hv ha n1 n2 s1 s2
theorem bi_arm {T : Tbl} {n k : Nat} {X : L2.Cx} (hEs : OkEs T n) (g : Good T k X) {fuel : Nat} {f : Str} {p pos : Pos} {a : Expr} {r : List Expr} {m : M} (gf : glB X.env.scope f = true)
    (h : (match biOf f, mapO (trE T X.N fuel X.env.scope) (a :: r) with | some b, some ms => some (M.bi b ms) | _, _ => none) = some m) : L2.PE X (.Call (.Name f p) (a :: r) [] pos) (gE T (n + 1) k m X.K) := by
  split at h
  · rename_i b ms hb hm
    cases h
    have e := biOf_ok hb
    subst e
    refine pe_by fun σ H Q ⟨ρ, w, d, w', α, hr, rs, kv⟩ => ?_
    obtain ⟨ds, w1, e1, e2⟩ := onVs_some (show onVs _ _ = _ from hr)
    obtain ⟨rr, op, spec⟩ := bi_ok (X := X) g.calm g.gd g.hu (toV_some e2)
    exact ⟨_, pe_bi g op (gl_of gf) (hEs k X g fuel _ ms hm) (trs_ok hm), ρ, w, ds, w1, α, e1, rs, fun α1 vs H1 x1 rh1 rd1 => spec α1 H1 vs Q rh1 rd1 (kv.mono x1)⟩
  · cases h
theorem rgI_eq (a b : Int) {K : Frag} {α : List Addr} {H : Hp} : RDs K α H (rgI a b) (L2.rgV a b) := by
  unfold rgI L2.rgV
  have : ∀ l : List Nat, RDs K α H (l.map fun i => D.int (a + (i : Nat))) (l.map fun i => L2.V.int (a + (i : Nat))) := fun l => by
    induction l with
    | nil => exact .nil
    | cons x r ih => exact .cons (.int _) ih
  exact this _
theorem rgI_len (a b : Int) : (rgI a b).length = (b - a).toNat := by unfold rgI; rw [List.length_map, List.length_range]
theorem call_ok {T : Tbl} {n k : Nat} {X : L2.Cx} (hEs : OkEs T n) (hC : OkC T n) (hE : OkE T n) (g : Good T k X) {fuel : Nat} {f : Str} {p pos : Pos} {args : List Expr} {m : M} (okf : okName f = true) (gf : glB X.env.scope f = true)
    (h : (match fnIx T f with
      | some i => (mapO (trE T X.N fuel X.env.scope) args).map fun ms => M.call i ms
      | none => (match args with
        | [.Call (.Name g _) (a :: r) [] _] => if g = "range" ∧ glB X.env.scope g = true ∧ (f = "tuple" ∨ f = "list") ∧ r.length ≤ 1 then (match biOf f, mapO (trE T X.N fuel X.env.scope) (a :: r) with
            | some b, some ms => some (M.rng b ms)
            | _, _ => none) else (match biOf f, mapO (trE T X.N fuel X.env.scope) args with
            | some b, some ms => some (M.bi b ms)
            | _, _ => none)
        | [a, .Name t _] => if f = "isinstance" then (if glB X.env.scope t = true then (match tyOf t, trE T X.N fuel X.env.scope a with
            | some ty, some x => some (M.isi x ty)
            | _, _ => none) else none) else (match biOf f, mapO (trE T X.N fuel X.env.scope) args with
            | some b, some ms => some (M.bi b ms)
            | _, _ => none)
        | a :: r => (match biOf f, mapO (trE T X.N fuel X.env.scope) (a :: r) with
            | some b, some ms => some (M.bi b ms)
            | _, _ => none)
        | [] => none)) = some m) : L2.PE X (.Call (.Name f p) args [] pos) (gE T (n + 1) k m X.K) := by
  split at h
  · rename_i i hi
    simp only [Option.map_eq_some_iff] at h
    obtain ⟨ms, hm, rfl⟩ := h
    obtain ⟨F, hF, rfl⟩ := fnIx_of hi
    obtain ⟨fa, fd, at1⟩ := g.facts.fns i F hF
    have G := hC k X.prog X.w X.K X.mg X.base i F fa fd g.facts hF at1
    refine pe_by fun σ H Q ⟨ρ, w, d, w', α, hr, rs, kv⟩ => ?_
    obtain ⟨ds, w1, e1, e2⟩ := onVs_some (show onVs _ _ = _ from hr)
    cases args with
    | nil =>
      have := mapO_nil hm
      subst this
      refine ⟨_, pe_callG0 G g.room g.gd (gl_of gf) at1.mg at1.fn.kp at1.binds (okName_of okf).1, ?_⟩
      have e3 := hEs k X g fuel [] [] hm
      -- the empty argument list
      have z : ds = [] ∧ w1 = w := by
        cases n with
        | zero => cases e1
        | succ n => cases e1; exact ⟨rfl, rfl⟩
      obtain ⟨rfl, rfl⟩ := z
      exact ⟨_, [], d, w', α, e2, rs.1, .nil, kv⟩
    | cons a r =>
      exact ⟨_, pe_callG G g.room g.gd (gl_of gf) at1.mg at1.fn.kp at1.binds (hEs k X g fuel _ ms hm) (okName_of okf).1 (trs_ok hm), ρ, w, ds, w1, α, e1, rs, fun α1 vs H1 x1 rh1 rd1 => ⟨w1, ds, d, w', α1, e2, rh1, rd1, kv.mono x1⟩⟩
  · split at h
    · rename_i g2 p2 a r pos2
      split at h
      · rename_i hc
        obtain ⟨rfl, gg, hf, hr1⟩ := hc
        split at h
        · rename_i b ms hb hm
          cases h
          have hbn := biOf_ok hb
          have hrange := g.facts.blt "range" (by decide +kernel)
          have okcall : okE (.Call (.Name "range" p2) (a :: r) [] pos2) = true := rfl
          refine pe_by fun σ H Q ⟨ρ, w, d, w', α, hr, rs, kv⟩ => ?_
          obtain ⟨ds, w1, e1, e2⟩ := onVs_some (show onVs _ _ = _ from hr)
          have e3 := toV_some e2
          unfold rngD at e3
          split at e3
          · rename_i xs hxs
            split at e3
            · rename_i hl
              obtain ⟨x, ms', hx, hms, rfl⟩ := mapO_cons hm
              have pa := hE k X g fuel a x hx
              -- the range's reading
              have fin : ∀ {lo hi : Int} {rd : L2.St → Hp → (Int → Int → Hp → Prop) → Prop}, xs = rgI lo hi → -(2 ^ 62) ≤ lo → lo < 2 ^ 62 → -(2 ^ 62) ≤ hi → hi < 2 ^ 62 → L2.PRg X (.Call (.Name "range" p2) (a :: r) [] pos2) rd →
                  (∀ R : Int → Int → Hp → Prop, (∀ α1 H1, XE X.K α H α1 H1 → RH X.K α1 w1 H1 → R lo hi H1) → rd σ H R) → ∃ u, L2.PE X (.Call (.Name f p) [.Call (.Name "range" p2) (a :: r) [] pos2] [] pos) u ∧ u σ H Q := fun {lo hi rd} ex l1 l2 l3 l4 pr hrd => by
                subst ex
                have ok : L2.RgOk lo hi := ⟨l1, l2, l3, l4, by rw [← rgI_len]; exact hl⟩
                rcases hf with rfl | rfl
                · have e4 : some b = some Bi.tuple := hb.symm.trans (by decide +kernel)
                  cases e4
                  cases (show some (D.tup (rgI lo hi), w1) = some (d, w') from e3)
                  exact ⟨_, L2.pe_tupRg g.calm (gl_of gf) (g.facts.blt _ (by decide +kernel)) pr (star_cons okcall), hrd _ fun α1 H1 x1 rh1 => ⟨ok, (kv.mono x1).newT rh1 (rgI_eq lo hi)⟩⟩
                · have e4 : some b = some Bi.list := hb.symm.trans (by decide +kernel)
                  cases e4
                  have e5 : new w1 (.lst (rgI lo hi)) = some (d, w') := e3
                  exact ⟨_, L2.pe_listRg g.calm (gl_of gf) (g.facts.blt _ (by decide +kernel)) pr (star_cons okcall), hrd _ fun α1 H1 x1 rh1 => ⟨ok, Kv.newL rh1 (rgI_eq lo hi) e5 (kv.mono x1)⟩⟩
              cases r with
              | nil =>
                have := mapO_nil hms
                subst this
                obtain ⟨d1, es, h1, rfl, q1, q2⟩ := exs_cons e1
                obtain ⟨rfl, rfl⟩ := exs_nil q2
                unfold rangeD at hxs
                cases d1 <;> simp only at hxs <;> try cases hxs
                rename_i j
                split at hxs
                · rename_i hj
                  cases hxs
                  exact fin rfl (by decide) (by decide) hj.1 hj.2 (L2.prg_1 (gl_of gg) hrange pa (star_cons (tr_ok hx))) fun R hR => gE_in q1 rs fun α1 v H1 x1 rh1 rd1 => by
                    cases rd1; exact ⟨j, rfl, hR α1 H1 x1 rh1⟩
                · cases hxs
              | cons b2 r2 =>
                obtain ⟨y, ms2, hy, hms2, rfl⟩ := mapO_cons hms
                have : r2 = [] := by cases r2 with | nil => rfl | cons _ _ => simp at hr1
                subst this
                have := mapO_nil hms2
                subst this
                obtain ⟨d1, es, h1, rfl, q1, q2⟩ := exs_cons e1
                obtain ⟨d2, es2, h2, rfl, q3, q4⟩ := exs_cons q2
                obtain ⟨rfl, rfl⟩ := exs_nil q4
                unfold rangeD at hxs
                cases d1 <;> cases d2 <;> simp only at hxs <;> try cases hxs
                rename_i i j
                split at hxs
                · rename_i hj
                  cases hxs
                  exact fin rfl hj.1 hj.2.1 hj.2.2.1 hj.2.2.2 (L2.prg_2 (gl_of gg) hrange pa (hE k X g fuel b2 y hy) (star_cons (tr_ok hx)) (star_cons (tr_ok hy)) (star_plain fun z hz => by rw [List.mem_singleton.mp hz]; exact tr_ok hy)) fun R hR => gE_in q1 rs fun α1 v H1 x1 rh1 rd1 => gE_in q3 (rs.mono x1 rh1) fun α2 u H2 x2 rh2 rd2 => by
                    cases rd1; cases rd2; exact ⟨i, j, rfl, rfl, hR α2 H2 (x1.trans x2) rh2⟩
                · cases hxs
            · cases e3
          · cases e3
        · cases h
      · exact bi_arm hEs g gf h
    · rename_i a t p2
      split at h
      · rename_i hf
        subst hf
        split at h
        · rename_i gt
          split at h
          · rename_i ty x hty hx
            cases h
            have et := tyOf_ok hty
            refine pe_by fun σ H Q ⟨ρ, w, d, w', α, hr, rs, kv⟩ => ?_
            obtain ⟨x1, w1, e1, f1⟩ := onV_some (show onV _ _ = _ from hr)
            obtain ⟨bb, f2, rfl, rfl⟩ := toB_some f1
            have pty : L2.PE X (.Name t p2) (L2.tC (.ty (tyName ty))) := by
              subst et
              exact L2.pe_bltn (gl_of gt) (g.facts.blt _ (ty_blt ty)) (ty_boot ty) rfl (ty_name ty).1 (ty_name ty).2
            have s1 : starEach [a, .Name t p2] X.env = (false, eval a X.env) :: starEach [.Name t p2] X.env := star_cons (tr_ok hx)
            have s2 : starEach [.Name t p2] X.env = (false, eval (.Name t p2) X.env) :: starEach [] X.env := rfl
            refine ⟨_, L2.pe_callB L2.call_isi (gl_of gf) (g.facts.blt _ (by decide +kernel)) (by decide +kernel) (L2.pa_cons (hE k X g fuel a x hx) (L2.pa_cons pty L2.pa_nil s2) s1) (by decide) (by decide) s1 rfl, ?_⟩
            exact gE_in e1 rs fun α1 v H1 x1 rh1 rd1 => by
              obtain ⟨s, tx, kt⟩ := isi_ok (X := X) f2 α1 H1 v rh1 rd1
              exact ⟨v, .ty (tyName ty), s, .type (tyName ty), bb, rfl, .ty _, tx, kt, (kv.mono x1).here rh1 (.bl _)⟩
          · cases h
        · cases h
      · exact bi_arm hEs g gf h
    · exact bi_arm hEs g gf h
    · cases h
theorem meth_ok {T : Tbl} {n k : Nat} {X : L2.Cx} (hEs : OkEs T n) (hE : OkE T n) (g : Good T k X) {fuel : Nat} {o : Expr} {m : Str} {apos cpos : Pos} {args : List Expr} {mm : M} (okc : isCall0 o = false) (okl : (apos.endLine == cpos.line) = true)
    (h : (match mtOf m, trE T X.N fuel X.env.scope o, mapO (trE T X.N fuel X.env.scope) args with
      | some m, some x, some ms => if ms.length ≤ 1 then some (M.mt m x ms) else none
      | _, _, _ => none) = some mm) : L2.PE X (.Call (.Attribute o m apos) args [] cpos) (gE T (n + 1) k mm X.K) := by
  split at h
  · rename_i m' x ms hm hx hms
    split at h
    · rename_i hlen
      cases h
      have em := mtOf_ok hm
      subst em
      refine pe_by fun σ H Q ⟨ρ, w, d, w', α, hr, rs, kv⟩ => ?_
      obtain ⟨x1, w1, e1, f1⟩ := onV_some (show onV _ _ = _ from hr)
      split at f1
      · rename_i hrec
        obtain ⟨ds, w2, e2, f2⟩ := onVs_some f1
        obtain ⟨r, op, spec⟩ := mt_ok (X := X) (toV_some f2)
        have hbase : attributeBase o (mtName m') X.env (eval o X.env) = eval o X.env := base_ok okc
        have pl := hE k X g fuel o x hx
        have ty : ∀ (α : List Addr) (H : Hp) (v : V), RH X.K α w1 H → RD X.K α H x1 v → L2.tyV X.K "list" v H := fun α H v rh rd => by
          cases x1 <;> simp only [recvOk] at hrec <;> try cases hrec
          rename_i n1
          obtain ⟨ys, hy⟩ := Option.isSome_iff_exists.mp hrec
          obtain ⟨q, vs, hq, hv, _⟩ := lst_of rh hy
          rw [rd.place hq]
          exact .inl ⟨rfl, vs, .inl (.inl hv)⟩
        cases args with
        | nil =>
          have := mapO_nil hms
          subst this
          obtain ⟨rfl, rfl⟩ := exs_nil e2
          have fin : ∀ (α1 : List Addr) (v : V) (H1 : Hp), XE X.K α H α1 H1 → RH X.K α1 w2 H1 → RD X.K α1 H1 x1 v → L2.tyV X.K "list" v H1 ∧ r v [] H1 Q := fun α1 v H1 x2 rh1 rd1 => ⟨ty α1 H1 v rh1 rd1, spec α1 H1 v [] Q rh1 rd1 .nil (kv.mono x2)⟩
          cases m' with
          | append => exact ⟨_, L2.pe_bm0 PySem.F.plainAttrs_list PySem.F.slot_list_append PySem.F.type_list_append op pl hbase okl, gE_in e1 rs fin⟩
          | extend => exact ⟨_, L2.pe_bm0 PySem.F.plainAttrs_list PySem.F.slot_list_extend PySem.F.type_list_extend op pl hbase okl, gE_in e1 rs fin⟩
          | pop => exact ⟨_, L2.pe_bm0 PySem.F.plainAttrs_list PySem.F.slot_list_pop PySem.F.type_list_pop op pl hbase okl, gE_in e1 rs fin⟩
        | cons a r0 =>
          obtain ⟨y, ms', hy, hms', rfl⟩ := mapO_cons hms
          have z1 : ms' = [] := by cases ms' with | nil => rfl | cons _ _ => simp at hlen
          subst z1
          have z2 : r0 = [] := by have := mapO_len hms'; cases r0 with | nil => rfl | cons _ _ => simp at this
          subst z2
          have pas := hEs k X g fuel _ _ hms
          have s1 : starEach [a] X.env = (false, eval a X.env) :: starEach [] X.env := star_cons (tr_ok hy)
          have few : ((backTo cpos (starEach [a] X.env)).all (fun x => !x.1) && (backToKw cpos (keywordEach [] X.env)).all (fun x => x.1.isSome)
              && decide (([a] : List Expr).length + ([] : List Keyword).length + (if ([] : List Keyword).isEmpty then 0 else 1) < 30)) = true := by
            rw [star_all fun z hz => by rw [List.mem_singleton.mp hz]; exact tr_ok hy]
            rfl
          have fin : ∀ (α1 : List Addr) (v : V) (H1 : Hp), XE X.K α H α1 H1 → RH X.K α1 w1 H1 → RD X.K α1 H1 x1 v → L2.tyV X.K "list" v H1 ∧ gEs T n k [y] X.K σ H1 fun xs H2 => r v xs H2 Q := fun α1 v H1 x2 rh1 rd1 => ⟨ty α1 H1 v rh1 rd1, ρ, w1, ds, w2, α1, e2, rs.mono x2 rh1, fun α2 vs H2 x3 rh2 rd2 => spec α2 H2 v vs Q rh2 (rd1.mono x3 _ _) rd2 (kv.mono (x2.trans x3))⟩
          cases m' with
          | append => exact ⟨_, L2.pe_bm PySem.F.plainAttrs_list PySem.F.slot_list_append PySem.F.type_list_append op pl pas hbase few okl s1 rfl, gE_in e1 rs fin⟩
          | extend => exact ⟨_, L2.pe_bm PySem.F.plainAttrs_list PySem.F.slot_list_extend PySem.F.type_list_extend op pl pas hbase few okl s1 rfl, gE_in e1 rs fin⟩
          | pop => exact ⟨_, L2.pe_bm PySem.F.plainAttrs_list PySem.F.slot_list_pop PySem.F.type_list_pop op pl pas hbase few okl s1 rfl, gE_in e1 rs fin⟩
      · cases f1
    · cases h
  · cases h
theorem wipe_idem (σ : L2.St) (own : List Nat) : L2.wipe (L2.wipe σ own) own = L2.wipe σ own := by
  refine List.ext_getElem? fun i => ?_
  by_cases hi : i ∈ own
  · have none1 : ∀ τ : L2.St, ∀ v, (L2.wipe τ own)[i]? ≠ some (some v) := fun τ v e => (L2.wipe_some e).2 hi
    have l1 : (L2.wipe (L2.wipe σ own) own).length = (L2.wipe σ own).length := by rw [L2.wipe_length]
    cases e1 : (L2.wipe (L2.wipe σ own) own)[i]? with
    | none =>
      have := List.getElem?_eq_none_iff.mp e1
      exact (List.getElem?_eq_none_iff.mpr (by omega)).symm
    | some o1 =>
      have hl := (List.getElem?_eq_some_iff.mp e1).1
      cases e2 : (L2.wipe σ own)[i]? with
      | none => have := List.getElem?_eq_none_iff.mp e2; omega
      | some o2 =>
        cases o1 with
        | some v => exact absurd e1 (none1 _ _)
        | none => cases o2 with
          | some v => exact absurd e2 (none1 _ _)
          | none => rfl
  · exact L2.wipe_out hi
theorem wipeL_some {ρ : Lo} {i : Nat} {d : D} : ∀ {own : List Nat}, (wipeL ρ own)[i]? = some (some d) → ρ[i]? = some (some d) ∧ i ∉ own
  | [], h => ⟨h, by simp⟩
  | v :: vs, h => by
    unfold wipeL at h
    by_cases hi : v = i
    · subst hi
      by_cases hv : v < (wipeL ρ vs).length
      · rw [List.getElem?_set_self hv] at h; cases h
      · rw [List.getElem?_eq_none (by simpa using hv)] at h; cases h
    · rw [List.getElem?_set_ne hi] at h
      obtain ⟨h1, h2⟩ := wipeL_some h
      exact ⟨h1, by simp only [List.mem_cons, not_or]; exact ⟨fun e => hi e.symm, h2⟩⟩
theorem RS.wipe {K : Frag} {α : List Addr} {ρ : Lo} {h : Hq} {σ : L2.St} {H : Hp} (r : RS K α ρ h σ H) (own : List Nat) : RS K α (wipeL ρ own) h (L2.wipe σ own) H :=
  ⟨r.1, fun i d e => by
    obtain ⟨e1, hi⟩ := wipeL_some e
    obtain ⟨v, h1, h2⟩ := r.2 i d e1
    exact ⟨v, by rw [L2.wipe_out hi]; exact h1, h2⟩⟩
def tIf (T : Tbl) (n k : Nat) (K : Frag) : Option M → L2.TT
  | none => L2.tYes
  | some c => gT T n k c K
theorem if_yes {σ : L2.St} {H : Hp} {P N : Hp → Prop} (h : P H) : L2.tYes σ H fun b H3 => if b = true then P H3 else N H3 := by show if true = true then P H else N H; rw [if_pos rfl]; exact h
theorem if_at {H : Hp} {P N : Hp → Prop} (h : P H) : (fun b H3 => if b = true then P H3 else N H3) true H := by show if true = true then P H else N H; rw [if_pos rfl]; exact h
/-- a comprehension's turns -/
theorem lc_read {T : Tbl} {n k : Nat} {K : Frag} {it : I} {t : Z.T} {ifs : Option M} {elt : M} {own : List Nat} {f2 : Nat} (ht : tgOwn own f2 t = true) {σ : L2.St} {H : Hp} {Q : L2.VK} (h : gE T (n + 1) k (.lc own it t ifs elt) K σ H Q) :
    L2.tLc (gI T n k it K) (gA T n k t K) (tIf T n k K ifs) (gE T n k elt K) own σ H Q := by
  obtain ⟨ρ, w, d, w', α, hr, rs, kv⟩ := h
  obtain ⟨wk, h1, e1, e2⟩ := onI_some (show onI _ _ = _ from hr)
  refine ⟨ρ, w, wk, h1, α, e1, rs, fun α1 H1 J x1 rh1 jo D hD => ?_⟩
  have rh2 : RH K (α1 ++ [D]) (h1 ++ [.lst []]) (L2.upd H1 D (.lst [])) := rh1.newL hD .nil
  have x2 : XE K α1 H1 (α1 ++ [D]) (L2.upd H1 D (.lst [])) := XE.obj hD
  have atD : (α1 ++ [D])[h1.length]? = some D := by
    rw [← rh1.len, List.getElem?_append_right (Nat.le_refl _), Nat.sub_self]; rfl
  have rs2 : RS K (α1 ++ [D]) (wipeL ρ own) (h1 ++ [.lst []]) (L2.wipe σ own) (L2.upd H1 D (.lst [])) := (rs.mono (x1.trans x2) rh2).wipe own
  refine ⟨fun i m H3 => m ≤ n ∧ ∃ α3 h3, run T m (.lcL k wk i t ifs elt own h1.length (wipeL ρ own) h3) = some (.val d w') ∧ XE K (α1 ++ [D]) (L2.upd H1 D (.lst [])) α3 H3 ∧ RH K α3 h3 H3, ⟨n, Nat.le_refl _, _, _, e2, .refl, rh2⟩, ?_⟩
  rintro i m H3 ⟨hm, α3, h3, er, x3, rh3⟩
  cases m with
  | zero => cases er
  | succ m =>
    have hmn : m ≤ n := Nat.le_of_succ_le hm
    have j3 := jo α3 h3 H3 (x2.trans x3) rh3 i
    simp only [run, step] at er
    split at er
    · cases er
    · rename_i ht0
      cases er
      rw [ht0] at j3
      exact .inl ⟨j3, kv _ _ _ (x1.trans (x2.trans x3)) rh3 (.ref (x3.at atD))⟩
    · rename_i d1 ht0
      rw [ht0] at j3
      obtain ⟨go, yl⟩ := j3
      obtain ⟨ρ1, h4, ea, er1⟩ := onN_some er
      refine .inr ⟨go, fun H' => m ≤ n ∧ ∃ α3 h3, run T m (.lcL k wk (i + 1) t ifs elt own h1.length (wipeL ρ own) h3) = some (.val d w') ∧ XE K (α1 ++ [D]) (L2.upd H1 D (.lst [])) α3 H' ∧ RH K α3 h3 H', fun H' hH => ⟨m, Nat.lt_succ_self _, hH⟩, fun x H4 hy => ?_⟩
      obtain ⟨x4, rh4, rd4⟩ := yl x H4 hy
      refine ⟨wipeL ρ own, h3, d1, ρ1, h4, α3, run_le hmn ea, rs2.mono (x3.trans x4) rh4, rd4, fun α5 σ5 H5 x5 rs5 hw => ⟨(hw own f2 ht).trans (wipe_idem σ own), ?_⟩⟩
      -- the element and its place at the list's end
      have tail : ∀ (α6 : List Addr) (H6 : Hp) (h6 : Hq), XE K α5 H5 α6 H6 → RH K α6 h6 H6 → (onV (run T m (.ex k elt ρ1 h6)) fun y h3 => match lstAt h3 h1.length with
          | some acc => if acc.length < line then run T m (.lcL k wk (i + 1) t ifs elt own h1.length (wipeL ρ own) (h3.set h1.length (.lst (acc ++ [y])))) else none
          | none => none) = some (.val d w') → gE T n k elt K σ5 H6 fun y H4 => ∃ acc, H4 D = some (.lst acc) ∧ acc.length < sizeLine ∧ (m ≤ n ∧ ∃ α3 h3, run T m (.lcL k wk (i + 1) t ifs elt own h1.length (wipeL ρ own) h3) = some (.val d w') ∧ XE K (α1 ++ [D]) (L2.upd H1 D (.lst [])) α3 (L2.upd H4 D (.lst (acc ++ [y]))) ∧ RH K α3 h3 (L2.upd H4 D (.lst (acc ++ [y])))) := fun α6 H6 h6 x6 rh6 ev => by
        obtain ⟨y, h7, e7, ev1⟩ := onV_some ev
        refine gE_in (run_le hmn e7) (rs5.mono x6 rh6) fun α7 v H7 x7 rh7 rd7 => ?_
        split at ev1
        · rename_i acc hacc
          split at ev1
          · rename_i hl
            obtain ⟨p, vs, hp, hv, rd⟩ := lst_of rh7 hacc
            have xx : XE K (α1 ++ [D]) (L2.upd H1 D (.lst [])) α7 H7 := ((((x3.trans x4).trans x5).trans x6).trans x7)
            have hD7 := xx.at atD
            rw [hp] at hD7
            cases hD7
            obtain ⟨x8, rh8⟩ := rh7.write (o' := .lst (acc ++ [y])) (u := .lst (vs ++ [v])) (lst_at hacc) hp rfl rfl fun x => ⟨_, L2.upd_same, (rd.append (.cons rd7 .nil)).mono x _ _⟩
            exact ⟨vs, hv, by rw [← rd.length, ← line_eq]; exact hl, hmn, α7, _, ev1, xx.trans x8, rh8⟩
          · cases ev1
        · cases ev1
      cases ifs with
      | none =>
        exact if_yes (σ := σ5) (P := fun H3 => gE T n k elt K σ5 H3 fun y H4 => ∃ acc, H4 D = some (.lst acc) ∧ acc.length < sizeLine ∧ (m ≤ n ∧ ∃ α3 h3, run T m (.lcL k wk (i + 1) t none elt own h1.length (wipeL ρ own) h3) = some (.val d w') ∧ XE K (α1 ++ [D]) (L2.upd H1 D (.lst [])) α3 (L2.upd H4 D (.lst (acc ++ [y]))) ∧ RH K α3 h3 (L2.upd H4 D (.lst (acc ++ [y]))))) (N := fun H' => m ≤ n ∧ ∃ α3 h3, run T m (.lcL k wk (i + 1) t none elt own h1.length (wipeL ρ own) h3) = some (.val d w') ∧ XE K (α1 ++ [D]) (L2.upd H1 D (.lst [])) α3 H' ∧ RH K α3 h3 H') (tail α5 H5 h4 .refl rs5.1 er1)
      | some c =>
        obtain ⟨b, h6, e6, er2⟩ := onB_some er1
        refine ⟨ρ1, h4, b, h6, α5, run_le hmn e6, rs5, fun α6 H6 x6 rh6 => ?_⟩
        cases b with
        | true =>
          rw [if_pos rfl] at er2
          exact if_at (P := fun H3 => gE T n k elt K σ5 H3 fun y H4 => ∃ acc, H4 D = some (.lst acc) ∧ acc.length < sizeLine ∧ (m ≤ n ∧ ∃ α3 h3, run T m (.lcL k wk (i + 1) t (some c) elt own h1.length (wipeL ρ own) h3) = some (.val d w') ∧ XE K (α1 ++ [D]) (L2.upd H1 D (.lst [])) α3 (L2.upd H4 D (.lst (acc ++ [y]))) ∧ RH K α3 h3 (L2.upd H4 D (.lst (acc ++ [y]))))) (N := fun H' => m ≤ n ∧ ∃ α3 h3, run T m (.lcL k wk (i + 1) t (some c) elt own h1.length (wipeL ρ own) h3) = some (.val d w') ∧ XE K (α1 ++ [D]) (L2.upd H1 D (.lst [])) α3 H' ∧ RH K α3 h3 H') (tail α6 H6 h6 x6 rh6 er2)
        | false =>
          rw [if_neg Bool.false_ne_true] at er2
          exact L2.iteF ⟨hmn, α6, h6, er2, (((x3.trans x4).trans x5).trans x6), rh6⟩
/-- what a comprehension's rules want -/
structure LcP (T : Tbl) (n k : Nat) (X : L2.Cx) (elt tg iter : Expr) (ifs : List Expr) (scope : Scope) (m : M) : Prop where
  get : ∃ (wi : L2.TI) (g : L2.TG) (tt : L2.TT) (te : L2.TE) (own : List (Str × Nat)), L2.PI X tg iter wi ∧ L2.BlkOk X.N X.env.scope scope own ∧
    (∀ (s : Shared) (H : Hp) (C : Addr) (cl : List (Str × Addr)) (fp : List Addr), L2.PG (X.blk s H scope (compEnvC scope cl C X.env) fp) tg g) ∧
    (∀ (s : Shared) (H : Hp) (C : Addr) (cl : List (Str × Addr)) (fp : List Addr), L2.PTs (X.blk s H scope (compEnvC scope cl C X.env) fp) ifs tt) ∧
    (∀ (s : Shared) (H : Hp) (C : Addr) (cl : List (Str × Addr)) (fp : List Addr), L2.PE (X.blk s H scope (compEnvC scope cl C X.env) fp) elt te) ∧
    (∀ x, foldedSetIterable iter X.env x = pure x) ∧ ∀ σ H Q, gE T (n + 1) k m X.K σ H Q → L2.tLc wi g tt te (own.map (·.2)) σ H Q
theorem lc_parts {T : Tbl} {n k : Nat} {X : L2.Cx} (hI : OkI T n) (hA : OkA T n) (hT : OkT T n) (hE : OkE T n) (g : Good T k X) {fuel : Nat} {elt tg iter : Expr} {ifs : List Expr} {scope : Scope} {m : M}
    (h : (let own := ownOf X.N scope
      let sc' := L2.relS scope X.env.scope
      if L2.blkC X.N X.env.scope scope own = true then (match trI (trE T X.N fuel) X.env.scope (isTup tg) iter, trT X.N (fun x => scope.names.lookup x == some .cell) (trE T X.N fuel) fuel sc' tg, trE T X.N fuel sc' elt with
        | some it, some t, some m => if okE iter = true ∧ tgOwn (own.map (·.2)) fuel t = true then (match ifs with
          | [] => some (M.lc (own.map (·.2)) it t none m)
          | [c] => (trE T X.N fuel sc' c).map fun c => M.lc (own.map (·.2)) it t (some c) m
          | _ => none) else none
        | _, _, _ => none) else none) = some m) : LcP T n k X elt tg iter ifs scope m := by
  simp only at h
  split at h
  · rename_i hb
    split at h
    · rename_i it t me hit htg hel
      split at h
      · rename_i hc
        have pg : ∀ (s : Shared) (H : Hp) (C : Addr) (cl : List (Str × Addr)) (fp : List Addr), L2.PG (X.blk s H scope (compEnvC scope cl C X.env) fp) tg (gA T n k t X.K) := fun s H C cl fp => hA k _ (g.blk s H scope _ fp) _ (fun x hx => hx) fuel fuel tg t htg
        have pe : ∀ (s : Shared) (H : Hp) (C : Addr) (cl : List (Str × Addr)) (fp : List Addr), L2.PE (X.blk s H scope (compEnvC scope cl C X.env) fp) elt (gE T n k me X.K) := fun s H C cl fp => hE k _ (g.blk s H scope _ fp) fuel elt me hel
        split at h
        · cases h
          exact ⟨_, _, _, _, ownOf X.N scope, hI k X g fuel tg iter it hit, L2.blkOk_by hb, pg, fun _ _ _ _ _ => L2.pts_nil, pe, folded_ok hc.1, fun σ H Q hq => lc_read (ifs := none) hc.2 hq⟩
        · rename_i c
          simp only [Option.map_eq_some_iff] at h
          obtain ⟨mc, hmc, rfl⟩ := h
          exact ⟨_, _, _, _, ownOf X.N scope, hI k X g fuel tg iter it hit, L2.blkOk_by hb, pg, fun s H C cl fp => L2.pts_one (hT k _ (g.blk s H scope _ fp) fuel c mc hmc).1, pe, folded_ok hc.1, fun σ H Q hq => lc_read (ifs := some mc) hc.2 hq⟩
        · cases h
      · cases h
    · cases h
  · cases h
theorem okE_step (hE : OkE T n) (hEs : OkEs T n) (hT : OkT T n) (hI : OkI T n) (hA : OkA T n) (hC : OkC T n) : OkE T (n + 1) := by
  intro k X g fuel
  cases fuel with
  | zero => intro e m h; simp [trE] at h
  | succ fuel =>
  intro e m h
  unfold trE at h
  split at h
  -- 3, 'a', True, None
  · cases h
    exact pe_by fun σ H Q ⟨ρ, w, d, w', α, hr, rs, kv⟩ => by cases hr; exact ⟨_, L2.pe_int, kv.here rs.1 (.int _)⟩
  · cases h
    exact pe_by fun σ H Q ⟨ρ, w, d, w', α, hr, rs, kv⟩ => by cases hr; exact ⟨_, L2.pe_str, kv.here rs.1 (.str _)⟩
  · cases h
    exact pe_by fun σ H Q ⟨ρ, w, d, w', α, hr, rs, kv⟩ => by cases hr; exact ⟨_, L2.pe_bl, kv.here rs.1 (.bl _)⟩
  · cases h
    exact pe_by fun σ H Q ⟨ρ, w, d, w', α, hr, rs, kv⟩ => by cases hr; exact ⟨_, L2.pe_non, kv.here rs.1 .non⟩
  -- a name
  · rename_i x p
    split at h
    · rename_i ok
      obtain ⟨ok1, ok2⟩ := okName_of ok
      split at h
      · rename_i hv
        simp only [Option.map_eq_some_iff] at h
        obtain ⟨i, hi, rfl⟩ := h
        refine pe_by fun σ H Q ⟨ρ, w, d, w', α, hr, rs, kv⟩ => ⟨_, L2.pe_var (ix_of hi) (vis_of hv) ok1 ok2, ?_⟩
        have hr : (match ρ[i]? with | some (some d) => some (R.val d w) | _ => none) = some (R.val d w') := hr
        split at hr
        · rename_i d' hd
          cases hr
          obtain ⟨v, h1, h2⟩ := rs.2 i _ hd
          exact ⟨v, h1, kv.here rs.1 h2⟩
        · cases hr
      · split at h
        · rename_i hg
          split at h
          · rename_i d0 hd0
            cases h
            refine pe_by fun σ H Q ⟨ρ, w, d, w', α, hr, rs, kv⟩ => ?_
            have hr : (T.consts.lookup x).map (fun d => R.val d w) = some (R.val d w') := hr
            simp only [Option.map_eq_some_iff] at hr
            obtain ⟨d1, h1, h2⟩ := hr
            cases h2
            obtain ⟨u, v, hm, hv, hs⟩ := g.facts.consts x d h1
            exact ⟨_, L2.pe_glob (gl_of hg) hm hv ok1, kv.here rs.1 (scal_rd hs)⟩
          · cases h
        · cases h
    · cases h
  -- a tuple, a list
  · rename_i es kk p
    simp only [Option.map_eq_some_iff] at h
    obtain ⟨ms, hm, rfl⟩ := h
    refine pe_by fun σ H Q ⟨ρ, w, d, w', α, hr, rs, kv⟩ => ⟨_, L2.pe_tup (hEs k X g fuel es ms hm), ?_⟩
    obtain ⟨ds, w1, e1, e2⟩ := onVs_some (show onVs _ _ = _ from hr)
    split at e2
    · rename_i hl
      cases e2
      refine ⟨ρ, w, ds, _, α, e1, rs, fun α1 vs H1 x1 rh1 rd1 => ⟨by rw [← rd1.length, ← line_eq]; exact hl, ?_⟩⟩
      exact (kv.mono x1).newT rh1 rd1
    · cases e2
  · rename_i es p
    simp only [Option.map_eq_some_iff] at h
    obtain ⟨ms, hm, rfl⟩ := h
    refine pe_by fun σ H Q ⟨ρ, w, d, w', α, hr, rs, kv⟩ => ⟨_, L2.pe_lst (hEs k X g fuel es ms hm), ?_⟩
    obtain ⟨ds, w1, e1, e2⟩ := onVs_some (show onVs _ _ = _ from hr)
    split at e2
    · rename_i hl
      refine ⟨ρ, w, ds, _, α, e1, rs, fun α1 vs H1 x1 rh1 rd1 => ⟨by rw [← rd1.length, ← line_eq]; exact hl, ?_⟩⟩
      exact Kv.newL rh1 rd1 (toV_some e2) (kv.mono x1)
    · cases e2
  -- {}
  · cases h
    refine pe_by fun σ H Q ⟨ρ, w, d, w', α, hr, rs, kv⟩ => ⟨_, L2.pe_dnewK, fun p hp => ?_⟩
    cases hr
    exact kv _ _ _ (.obj hp) (rs.1.newO hp ⟨[], L2.upd_same, .nil⟩) (.newRef rs.1)
  -- a + b ..
  · rename_i a o b p
    split at h
    · rename_i o' x y ho hx hy
      cases h
      rw [opBack_ok ho]
      refine pe_by fun σ H Q ⟨ρ, w, d, w', α, hr, rs, kv⟩ => ?_
      obtain ⟨x1, w1, e1, f1⟩ := onV_some (show onV _ _ = _ from hr)
      obtain ⟨y1, w2, e2, f2⟩ := onV_some f1
      obtain ⟨r, op, spec⟩ := binop_ok (X := X) (toV_some f2)
      exact ⟨_, L2.pe_op op (hE k X g fuel a x hx) (hE k X g fuel b y hy), gE_in e1 rs fun α1 v H1 x1 rh1 rd1 => gE_in e2 (rs.mono x1 rh1) fun α2 u H2 x2 rh2 rd2 =>
        spec α2 H2 v u Q rh2 (rd1.mono x2 _ _) rd2 (kv.mono (x1.trans x2))⟩
    · cases h
  -- -a
  · rename_i a p
    simp only [Option.map_eq_some_iff] at h
    obtain ⟨x, hx, rfl⟩ := h
    refine pe_by fun σ H Q ⟨ρ, w, d, w', α, hr, rs, kv⟩ => ⟨_, L2.pe_un L2.un_neg (hE k X g fuel a x hx), ?_⟩
    obtain ⟨x1, w1, e1, f1⟩ := onV_some (show onV _ _ = _ from hr)
    simp only [Option.map_eq_some_iff] at f1
    obtain ⟨i, hi, f1⟩ := f1
    cases f1
    rw [int?_eq hi] at e1
    exact gE_in e1 rs fun α1 v H1 x1 rh1 rd1 => by cases rd1; exact ⟨i, rfl, (kv.mono x1).here rh1 (.int _)⟩
  -- not a
  · rename_i a p
    simp only [Option.map_eq_some_iff] at h
    obtain ⟨x, hx, rfl⟩ := h
    refine pe_by fun σ H Q ⟨ρ, w, d, w', α, hr, rs, kv⟩ => ⟨_, L2.pe_not (hE k X g fuel a x hx), ?_⟩
    obtain ⟨x1, w1, e1, f1⟩ := onV_some (show onV _ _ = _ from hr)
    simp only [Option.map_eq_some_iff] at f1
    obtain ⟨i, hi, f1⟩ := f1
    cases f1
    rw [bl?_eq hi] at e1
    exact gE_in e1 rs fun α1 v H1 x1 rh1 rd1 => by cases rd1; exact ⟨i, rfl, (kv.mono x1).here rh1 (.bl _)⟩
  -- a < b ..
  · rename_i a c b p
    split at h
    · rename_i c' x y hc hx hy
      cases h
      rw [cpBack_ok hc]
      refine pe_by fun σ H Q ⟨ρ, w, d, w', α, hr, rs, kv⟩ => ?_
      obtain ⟨x1, w1, e1, f1⟩ := onV_some (show onV _ _ = _ from hr)
      obtain ⟨y1, w2, e2, f2⟩ := onV_some f1
      obtain ⟨bb, f3, rfl, rfl⟩ := toB_some f2
      obtain ⟨r, op, spec⟩ := cmpop_ok (X := X) g.hu f3
      exact ⟨_, L2.pe_cmpR op (hE k X g fuel a x hx) (hE k X g fuel b y hy) (behind_ok (tr_ok hy)), gE_in e1 rs fun α1 v H1 x1 rh1 rd1 => gE_in e2 (rs.mono x1 rh1) fun α2 u H2 x2 rh2 rd2 =>
        spec α2 H2 v u Q rh2 (rd1.mono x2 _ _) rd2 ((kv.mono (x1.trans x2)).here rh2 (.bl _))⟩
    · cases h
  -- a < b < c
  · rename_i a c c' b b2 p
    split at h
    · rename_i o1 o2 x y z hc hc' hx hy hz
      cases h
      rw [cpBack_ok hc, cpBack_ok hc']
      refine pe_by fun σ H Q ⟨ρ, w, d, w', α, hr, rs, kv⟩ => ?_
      obtain ⟨x1, w1, e1, f1⟩ := onV_some (show onV _ _ = _ from hr)
      obtain ⟨y1, w2, e2, f2⟩ := onV_some f1
      split at f2
      · rename_i hcm
        obtain ⟨z1, w3, e3, f3⟩ := onV_some f2
        obtain ⟨bb, f4, rfl, rfl⟩ := toB_some f3
        obtain ⟨r, op, spec⟩ := cmpop_ok (X := X) g.hu hcm
        obtain ⟨r', op', spec'⟩ := cmpop_ok (X := X) g.hu f4
        exact ⟨_, L2.pe_chain op op' (hE k X g fuel a x hx) (hE k X g fuel b y hy) (hE k X g fuel b2 z hz) (by show behindInMarks _ _ = false; exact behind_ok (tr_ok hz)), gE_in e1 rs fun α1 v H1 x1 rh1 rd1 => gE_in e2 (rs.mono x1 rh1) fun α2 u H2 x2 rh2 rd2 =>
          spec α2 H2 v u _ rh2 (rd1.mono x2 _ _) rd2 ⟨true, rfl, L2.iteT (gE_in e3 (rs.mono (x1.trans x2) rh2) fun α3 t H3 x3 rh3 rd3 => spec' α3 H3 u t Q rh3 (rd2.mono x3 _ _) rd3 ((kv.mono ((x1.trans x2).trans x3)).here rh3 (.bl _)))⟩⟩
      · rename_i hcm
        cases f2
        obtain ⟨r, op, spec⟩ := cmpop_ok (X := X) g.hu hcm
        exact ⟨_, L2.pe_chain op op_false (hE k X g fuel a x hx) (hE k X g fuel b y hy) (hE k X g fuel b2 z hz) (by show behindInMarks _ _ = false; exact behind_ok (tr_ok hz)), gE_in e1 rs fun α1 v H1 x1 rh1 rd1 => gE_in e2 (rs.mono x1 rh1) fun α2 u H2 x2 rh2 rd2 =>
          spec α2 H2 v u _ rh2 (rd1.mono x2 _ _) rd2 ⟨false, rfl, L2.iteF ((kv.mono (x1.trans x2)).here rh2 (.bl _))⟩⟩
      · cases f2
    · cases h
  -- one of and, or
  · rename_i o a p
    simp only [Option.map_eq_some_iff] at h
    obtain ⟨x, hx, rfl⟩ := h
    exact pe_by fun σ H Q ⟨ρ, w, d, w', α, hr, rs, kv⟩ => ⟨_, L2.pe_one (hE k X g fuel a x hx), gE_in hr rs kv⟩
  -- and
  · rename_i a b r p
    split at h
    · rename_i x y hx hy
      cases h
      refine pe_by fun σ H Q ⟨ρ, w, d, w', α, hr, rs, kv⟩ => ⟨_, L2.pe_and (hE k X g fuel a x hx) (hE k X g fuel _ y hy), ?_⟩
      obtain ⟨x1, w1, e1, f1⟩ := onV_some (show onV _ _ = _ from hr)
      split at f1
      · rename_i hb
        rw [bl?_eq hb] at e1
        exact gE_in e1 rs fun α1 v H1 x1 rh1 rd1 => by cases rd1; exact ⟨true, rfl, L2.iteT (gE_in f1 (rs.mono x1 rh1) (kv.mono x1))⟩
      · rename_i hb
        rw [bl?_eq hb] at e1
        cases f1
        exact gE_in e1 rs fun α1 v H1 x1 rh1 rd1 => by cases rd1; exact ⟨false, rfl, L2.iteF ((kv.mono x1).here rh1 (.bl _))⟩
      · cases f1
    · cases h
  -- or
  · rename_i a b r p
    split at h
    · rename_i x y hx hy
      cases h
      refine pe_by fun σ H Q ⟨ρ, w, d, w', α, hr, rs, kv⟩ => ⟨_, L2.pe_or (hE k X g fuel a x hx) (hE k X g fuel _ y hy), ?_⟩
      obtain ⟨x1, w1, e1, f1⟩ := onV_some (show onV _ _ = _ from hr)
      split at f1
      · rename_i hb
        rw [bl?_eq hb] at e1
        cases f1
        exact gE_in e1 rs fun α1 v H1 x1 rh1 rd1 => by cases rd1; exact ⟨true, rfl, L2.iteT ((kv.mono x1).here rh1 (.bl _))⟩
      · rename_i hb
        rw [bl?_eq hb] at e1
        exact gE_in e1 rs fun α1 v H1 x1 rh1 rd1 => by cases rd1; exact ⟨false, rfl, L2.iteF (gE_in f1 (rs.mono x1 rh1) (kv.mono x1))⟩
      · cases f1
    · cases h
  -- a if t else b
  · rename_i t a b p
    split at h
    · rename_i z x y hz hx hy
      cases h
      refine pe_by fun σ H Q ⟨ρ, w, d, w', α, hr, rs, kv⟩ => ⟨_, L2.pe_ifExp (hT k X g fuel t z hz).1 (hE k X g fuel a x hx) (hE k X g fuel b y hy), ?_⟩
      obtain ⟨c, w1, e1, f1⟩ := onB_some (show onB _ _ = _ from hr)
      refine ⟨ρ, w, c, w1, α, e1, rs, fun α1 H1 x1 rh1 => ?_⟩
      cases c with
      | true => rw [if_pos rfl] at f1; exact L2.iteT (gE_in f1 (rs.mono x1 rh1) (kv.mono x1))
      | false => rw [if_neg Bool.false_ne_true] at f1; exact L2.iteF (gE_in f1 (rs.mono x1 rh1) (kv.mono x1))
    · cases h
  -- slices
  · rename_i a p2 p
    simp only [Option.map_eq_some_iff] at h
    obtain ⟨x, hx, rfl⟩ := h
    refine pe_by fun σ H Q ⟨ρ, w, d, w', α, hr, rs, kv⟩ => ?_
    obtain ⟨x1, w1, e1, f1⟩ := onV_some (show onV _ _ = _ from hr)
    obtain ⟨r, op, spec⟩ := sl_ok (X := X) (toV_some f1)
    exact ⟨_, L2.pe_slice op (hE k X g fuel a x hx) L2.po_none L2.po_none, gE_in e1 rs fun α1 v H1 x1 rh1 rd1 => spec α1 H1 v Q rh1 rd1 (kv.mono x1)⟩
  · rename_i a l p2 p
    split at h
    · rename_i x y hx hy
      cases h
      refine pe_by fun σ H Q ⟨ρ, w, d, w', α, hr, rs, kv⟩ => ?_
      obtain ⟨x1, w1, e1, f1⟩ := onV_some (show onV _ _ = _ from hr)
      obtain ⟨y1, w2, e2, f2⟩ := onV_some f1
      split at f2
      · rename_i i hi
        rw [int?_eq hi] at e2
        obtain ⟨r, op, spec⟩ := sl_ok (X := X) (toV_some f2)
        exact ⟨_, L2.pe_slice op (hE k X g fuel a x hx) (L2.po_some (hE k X g fuel l y hy)) L2.po_none, gE_in e1 rs fun α1 v H1 x1 rh1 rd1 => gE_in e2 (rs.mono x1 rh1) fun α2 u H2 x2 rh2 rd2 => by
          cases rd2; exact ⟨i, rfl, spec α2 H2 v Q rh2 (rd1.mono x2 _ _) (kv.mono (x1.trans x2))⟩⟩
      · cases f2
    · cases h
  · rename_i a l p2 p
    split at h
    · rename_i x y hx hy
      cases h
      refine pe_by fun σ H Q ⟨ρ, w, d, w', α, hr, rs, kv⟩ => ?_
      obtain ⟨x1, w1, e1, f1⟩ := onV_some (show onV _ _ = _ from hr)
      obtain ⟨y1, w2, e2, f2⟩ := onV_some f1
      split at f2
      · rename_i i hi
        rw [int?_eq hi] at e2
        obtain ⟨r, op, spec⟩ := sl_ok (X := X) (toV_some f2)
        exact ⟨_, L2.pe_slice op (hE k X g fuel a x hx) L2.po_none (L2.po_some (hE k X g fuel l y hy)), gE_in e1 rs fun α1 v H1 x1 rh1 rd1 => gE_in e2 (rs.mono x1 rh1) fun α2 u H2 x2 rh2 rd2 => by
          cases rd2; exact ⟨i, rfl, spec α2 H2 v Q rh2 (rd1.mono x2 _ _) (kv.mono (x1.trans x2))⟩⟩
      · cases f2
    · cases h
  · rename_i a l u p2 p
    split at h
    · rename_i x y z hx hy hz
      cases h
      refine pe_by fun σ H Q ⟨ρ, w, d, w', α, hr, rs, kv⟩ => ?_
      obtain ⟨x1, w1, e1, f1⟩ := onV_some (show onV _ _ = _ from hr)
      obtain ⟨y1, w2, e2, f2⟩ := onV_some f1
      obtain ⟨z1, w3, e3, f3⟩ := onV_some f2
      split at f3
      · rename_i i j hi hj
        rw [int?_eq hi] at e2
        rw [int?_eq hj] at e3
        obtain ⟨r, op, spec⟩ := sl_ok (X := X) (toV_some f3)
        exact ⟨_, L2.pe_slice op (hE k X g fuel a x hx) (L2.po_some (hE k X g fuel l y hy)) (L2.po_some (hE k X g fuel u z hz)), gE_in e1 rs fun α1 v H1 x1 rh1 rd1 => gE_in e2 (rs.mono x1 rh1) fun α2 u2 H2 x2 rh2 rd2 => by
          cases rd2
          exact ⟨i, rfl, gE_in e3 (rs.mono (x1.trans x2) rh2) fun α3 u3 H3 x3 rh3 rd3 => by cases rd3; exact ⟨j, rfl, spec α3 H3 v Q rh3 ((rd1.mono x2 _ _).mono x3 _ _) (kv.mono ((x1.trans x2).trans x3))⟩⟩⟩
      · cases f3
    · cases h
  -- a[i]
  · rename_i a i p hno1 hno2 hno3 hno4
    split at h
    · rename_i oki
      split at h
      · rename_i x y hx hy
        cases h
        refine pe_by fun σ H Q ⟨ρ, w, d, w', α, hr, rs, kv⟩ => ?_
        obtain ⟨x1, w1, e1, f1⟩ := onV_some (show onV _ _ = _ from hr)
        obtain ⟨y1, w2, e2, f2⟩ := onV_some f1
        simp only [Option.map_eq_some_iff] at f2
        obtain ⟨d1, f3, f4⟩ := f2
        cases f4
        obtain ⟨r, op, spec⟩ := ix_ok (X := X) g.hu f3
        exact ⟨_, L2.pe_ix op (hE k X g fuel a x hx) (hE k X g fuel i y hy) (ix_plain oki), gE_in e1 rs fun α1 v H1 x1 rh1 rd1 => gE_in e2 (rs.mono x1 rh1) fun α2 u H2 x2 rh2 rd2 =>
          spec α2 H2 v u Q rh2 (rd1.mono x2 _ _) rd2 (kv.mono (x1.trans x2))⟩
      · cases h
    · cases h
  -- f(..)
  · rename_i f p args pos
    split at h
    · rename_i okf
      exact call_ok (n := n) hEs hC hE g okf.1 okf.2 h
    · cases h
  -- o.m(..)
  · rename_i o m apos args cpos
    split at h
    · rename_i okm
      exact meth_ok (n := n) hEs hE g okm.1 okm.2 h
    · cases h
  -- [..]
  · rename_i elt tg iter ifs scope pos
    obtain ⟨wi, gg, tt, te, own, h1, h2, h3, h4, h5, h6, h7⟩ := (lc_parts hI hA hT hE g h).get
    exact pe_by fun σ H Q q => ⟨_, L2.pe_lc g.calm g.nd h1 h2 h3 h4 h5 h6, h7 σ H Q q⟩
  · cases h
end Z
set_option maxHeartbeats 8000000
/-! Z9: argument lists, tests, loops' sources, targets. -/
namespace Z
open PySem PySem.Spec PyProof.Rows L2
section
variable {X : L2.Cx}
theorem pg_by {e : Expr} {t : L2.TG} (h : ∀ v σ H Q, σ.length = X.N.length → t v σ H Q → ∃ u, L2.PG X e u ∧ u v σ H Q) : L2.PG X e t := ⟨fun pins s σ H v w Q I r q => let ⟨u, pu, qu⟩ := h v σ H Q I.len q; pu.run pins s σ H v w Q I r qu⟩
theorem pgs_by {e : List Expr} {t : L2.TGs} (h : ∀ v σ H Q, t v σ H Q → ∃ u, L2.PGs X e u ∧ u v σ H Q) : L2.PGs X e t := ⟨fun pins s σ H v w Q I r q => let ⟨u, pu, qu⟩ := h v σ H Q q; pu.run pins s σ H v w Q I r qu⟩
theorem psi_by {e : Stmt} {t : L2.TS} (h : X.env.scope.kind = .function → ∀ D σ H, σ.length = X.N.length → t D σ H → ∃ u, L2.PS X e u ∧ u D σ H) : L2.PS X e t := ⟨fun pins s σ H D I q => let ⟨u, pu, qu⟩ := h I.ok.kind D σ H I.len q; pu.run pins s σ H D I qu⟩
end
variable {T : Tbl} {n : Nat}
theorem gT_in {k : Nat} {m : M} {K : Frag} {σ : L2.St} {H : Hp} {Q : Bool → Hp → Prop} {ρ : Lo} {h h' : Hq} {d : Bool} {α : List Addr} (e : run T n (.ts k m ρ h) = some (.tst d h')) (rs : RS K α ρ h σ H) (q : ∀ α' H', XE K α H α' H' → RH K α' h' H' → Q d H') : gT T n k m K σ H Q :=
  ⟨ρ, h, d, h', α, e, rs, q⟩
theorem okEs_step (hE : OkE T n) (hEs : OkEs T n) : OkEs T (n + 1) := by
  intro k X g fuel es ms h
  cases es with
  | nil =>
    have := mapO_nil h
    subst this
    exact pa_by fun σ H Q ⟨ρ, w, ds, w', α, hr, rs, kv⟩ => by cases hr; exact ⟨_, L2.pa_nil, kv _ _ _ .refl rs.1 .nil⟩
  | cons e es =>
    obtain ⟨m, ms', hm, hms, rfl⟩ := mapO_cons h
    refine pa_by fun σ H Q ⟨ρ, w, ds, w', α, hr, rs, kv⟩ => ⟨_, L2.pa_cons (hE k X g fuel e m hm) (hEs k X g fuel es ms' hms) (star_cons (tr_ok hm)), ?_⟩
    obtain ⟨d, h1, e1, e2⟩ := onV_some (show onV _ _ = _ from hr)
    obtain ⟨xs, h2, e3, e4⟩ := onVs_some e2
    cases e4
    exact gE_in e1 rs fun α1 v H1 x1 rh1 rd1 => ⟨ρ, h1, xs, _, α1, e3, rs.mono x1 rh1, fun α2 vs H2 x2 rh2 rd2 => kv α2 _ H2 (x1.trans x2) rh2 (.cons (rd1.mono x2 _ _) rd2)⟩
/-! ### tests -/
def isT : Expr → Bool
  | .Compare .. => true | .BoolOp .. => true | .IfExp .. => true | .UnaryOp .Not _ _ => true | _ => false
def notT : M → Bool
  | .cmp .. => false | .chain .. => false | .one .. => false | .and .. => false | .or .. => false | .not .. => false | .ite .. => false | _ => true
theorem isTrue_def {e : Expr} {env : Env} (h : isT e = false) : ∀ whole, isTrue e env whole = (do let v ← whole; standAt e.pos; holding [v] (truthy v)) := fun whole => by
  cases e with
  | UnaryOp o a p => cases o <;> first | (cases h; done) | rfl
  | _ => first | (cases h; done) | rfl
theorem notT_of {B : Tbl} {N : List Str} {n : Nat} {sc : Scope} {e : Expr} {m : M} (hs : isT e = false) (h : trE B N n sc e = some m) : notT m = true := by
  cases n with
  | zero => simp [trE] at h
  | succ n =>
    unfold trE at h
    repeat' split at h
    all_goals first | (cases hs; done) | (cases h <;> rfl) | (simp only [Option.map_eq_some_iff] at h; obtain ⟨_, _, rfl⟩ := h; rfl) | (dsimp only at h; repeat' split at h) <;> first | (cases h <;> rfl) | (simp only [Option.map_eq_some_iff] at h; obtain ⟨_, _, rfl⟩ := h; rfl)
theorem truth_arm (hE : OkE T n) {k : Nat} {X : L2.Cx} (g : Good T k X) {fuel : Nat} {e : Expr} {m : M} (h : trE T X.N fuel X.env.scope e = some m) (hs : isT e = false) : L2.PT X e (gT T (n + 1) k m X.K) := by
  have nt := notT_of hs h
  have pe := hE k X g fuel e m h
  refine pt_by fun σ H Q ⟨ρ, w, b, w', α, hr, rs, kv⟩ => ⟨_, L2.pt_truth pe (isTrue_def hs), ?_⟩
  have hr : (onV (run T n (.ex k m ρ w)) fun x h1 => (truth x h1).map fun c => .tst c h1) = some (.tst b w') := by
    cases m <;> first | (cases nt; done) | exact hr
  obtain ⟨x, w1, e1, e2⟩ := onV_some hr
  simp only [Option.map_eq_some_iff] at e2
  obtain ⟨c, e3, e4⟩ := e2
  cases e4
  exact gE_in e1 rs fun α1 v H1 x1 rh1 rd1 => ⟨b, truth_ok e3 α1 H1 v rh1 rd1, kv α1 H1 x1 rh1⟩
theorem op_falseT {X : L2.Cx} {f : Value → Value → Sem Value} : L2.OpR X f (fun _ _ _ _ => False) := op_false
theorem okT_step (hE : OkE T n) (hT : OkT T n) : OkT T (n + 1) := by
  intro k X g fuel e m h
  cases hs : isT e with
  | false =>
    refine ⟨truth_arm hE g h hs, fun o vals pos eb => ?_⟩
    subst eb
    cases hs
  | true =>
    cases fuel with
    | zero => simp [trE] at h
    | succ fuel =>
    unfold trE at h
    split at h <;> first | (cases hs; done) | skip
    -- not a
    · rename_i a p
      simp only [Option.map_eq_some_iff] at h
      obtain ⟨x, hx, rfl⟩ := h
      refine ⟨?_, fun _ _ _ z => (nomatch z)⟩
      refine pt_by fun σ H Q ⟨ρ, w, b, w', α, hr, rs, kv⟩ => ⟨_, L2.pt_not (hT k X g fuel a x hx).1, ?_⟩
      obtain ⟨c, w1, e1, e2⟩ := onB_some (show onB _ _ = _ from hr)
      cases e2
      exact gT_in e1 rs kv
    -- a < b ..
    · rename_i a c b p
      split at h
      · rename_i c' x y hc hx hy
        cases h
        rw [cpBack_ok hc]
        refine ⟨?_, fun _ _ _ z => (nomatch z)⟩
        refine pt_by fun σ H Q ⟨ρ, w, d, w', α, hr, rs, kv⟩ => ?_
        obtain ⟨x1, w1, e1, f1⟩ := onV_some (show onV _ _ = _ from hr)
        obtain ⟨y1, w2, e2, f2⟩ := onV_some f1
        simp only [Option.map_eq_some_iff] at f2
        obtain ⟨bb, f3, f4⟩ := f2
        cases f4
        obtain ⟨r, op, spec⟩ := cmpop_ok (X := X) g.hu f3
        exact ⟨_, L2.pt_cmpR op (hE k X g fuel a x hx) (hE k X g fuel b y hy) (behind_ok (tr_ok hy)), gE_in e1 rs fun α1 v H1 x1 rh1 rd1 => gE_in e2 (rs.mono x1 rh1) fun α2 u H2 x2 rh2 rd2 =>
          spec α2 H2 v u _ rh2 (rd1.mono x2 _ _) rd2 ⟨d, rfl, kv α2 H2 (x1.trans x2) rh2⟩⟩
      · cases h
    -- a < b < c
    · rename_i a c c' b b2 p
      split at h
      · rename_i o1 o2 x y z hc hc' hx hy hz
        cases h
        rw [cpBack_ok hc, cpBack_ok hc']
        refine ⟨?_, fun _ _ _ z => (nomatch z)⟩
        refine pt_by fun σ H Q ⟨ρ, w, d, w', α, hr, rs, kv⟩ => ?_
        obtain ⟨x1, w1, e1, f1⟩ := onV_some (show onV _ _ = _ from hr)
        obtain ⟨y1, w2, e2, f2⟩ := onV_some f1
        split at f2
        · rename_i hcm
          obtain ⟨z1, w3, e3, f3⟩ := onV_some f2
          simp only [Option.map_eq_some_iff] at f3
          obtain ⟨bb, f4, f5⟩ := f3
          cases f5
          obtain ⟨r, op, spec⟩ := cmpop_ok (X := X) g.hu hcm
          obtain ⟨r', op', spec'⟩ := cmpop_ok (X := X) g.hu f4
          exact ⟨_, L2.pt_chain op op' (hE k X g fuel a x hx) (hE k X g fuel b y hy) (hE k X g fuel b2 z hz) (by show behindInMarks _ _ = false; exact behind_ok (tr_ok hz)), gE_in e1 rs fun α1 v H1 x1 rh1 rd1 => gE_in e2 (rs.mono x1 rh1) fun α2 u H2 x2 rh2 rd2 =>
            spec α2 H2 v u _ rh2 (rd1.mono x2 _ _) rd2 ⟨true, rfl, L2.iteT (gE_in e3 (rs.mono (x1.trans x2) rh2) fun α3 t H3 x3 rh3 rd3 => spec' α3 H3 u t _ rh3 (rd2.mono x3 _ _) rd3 ⟨d, rfl, kv α3 H3 ((x1.trans x2).trans x3) rh3⟩)⟩⟩
        · rename_i hcm
          cases f2
          obtain ⟨r, op, spec⟩ := cmpop_ok (X := X) g.hu hcm
          exact ⟨_, L2.pt_chain op op_false (hE k X g fuel a x hx) (hE k X g fuel b y hy) (hE k X g fuel b2 z hz) (by show behindInMarks _ _ = false; exact behind_ok (tr_ok hz)), gE_in e1 rs fun α1 v H1 x1 rh1 rd1 => gE_in e2 (rs.mono x1 rh1) fun α2 u H2 x2 rh2 rd2 =>
            spec α2 H2 v u _ rh2 (rd1.mono x2 _ _) rd2 ⟨false, rfl, L2.iteF ⟨false, rfl, kv α2 H2 (x1.trans x2) rh2⟩⟩⟩
        · cases f2
      · cases h
    -- one
    · rename_i o a p
      simp only [Option.map_eq_some_iff] at h
      obtain ⟨x, hx, rfl⟩ := h
      have pw : L2.PW X (.BoolOp o [a] p) (gT T (n + 1) k (.one x) X.K) := pw_by fun σ H Q ⟨ρ, w, b, w', α, hr, rs, kv⟩ => by
        cases o with
        | And => exact ⟨_, L2.pw_and1 (hT k X g fuel a x hx).1, gT_in hr rs kv⟩
        | Or => exact ⟨_, L2.pw_or1 (hT k X g fuel a x hx).1, gT_in hr rs kv⟩
      exact ⟨pw.pt, fun _ _ _ _ => pw⟩
    -- and
    · rename_i a b r p
      split at h
      · rename_i x y hx hy
        cases h
        have pw : L2.PW X (.BoolOp .And (a :: b :: r) p) (gT T (n + 1) k (.and x y) X.K) := pw_by fun σ H Q ⟨ρ, w, d, w', α, hr, rs, kv⟩ => by
          refine ⟨_, L2.pw_and (hT k X g fuel a x hx).1 ((hT k X g fuel _ y hy).2 _ _ _ rfl), ?_⟩
          obtain ⟨c, w1, e1, e2⟩ := onB_some (show onB _ _ = _ from hr)
          refine gT_in e1 rs fun α1 H1 x1 rh1 => ?_
          cases c with
          | true => rw [if_pos rfl] at e2; exact L2.iteT (gT_in e2 (rs.mono x1 rh1) fun α2 H2 x2 rh2 => kv α2 H2 (x1.trans x2) rh2)
          | false => rw [if_neg Bool.false_ne_true] at e2; cases e2; exact L2.iteF (kv α1 H1 x1 rh1)
        exact ⟨pw.pt, fun _ _ _ _ => pw⟩
      · cases h
    -- or
    · rename_i a b r p
      split at h
      · rename_i x y hx hy
        cases h
        have pw : L2.PW X (.BoolOp .Or (a :: b :: r) p) (gT T (n + 1) k (.or x y) X.K) := pw_by fun σ H Q ⟨ρ, w, d, w', α, hr, rs, kv⟩ => by
          refine ⟨_, L2.pw_or (hT k X g fuel a x hx).1 ((hT k X g fuel _ y hy).2 _ _ _ rfl), ?_⟩
          obtain ⟨c, w1, e1, e2⟩ := onB_some (show onB _ _ = _ from hr)
          refine gT_in e1 rs fun α1 H1 x1 rh1 => ?_
          cases c with
          | true => rw [if_pos rfl] at e2; cases e2; exact L2.iteT (kv α1 H1 x1 rh1)
          | false => rw [if_neg Bool.false_ne_true] at e2; exact L2.iteF (gT_in e2 (rs.mono x1 rh1) fun α2 H2 x2 rh2 => kv α2 H2 (x1.trans x2) rh2)
        exact ⟨pw.pt, fun _ _ _ _ => pw⟩
      · cases h
    -- a if t else b
    · split at h
      · cases h
        refine ⟨pt_by fun σ H Q ⟨ρ, w, d, w', α, hr, rs, kv⟩ => ?_, fun _ _ _ z => (nomatch z)⟩
        cases hr
      · cases h
    · cases h
/-! ### what a loop walks -/
theorem of_ok (hE : OkE T n) {k : Nat} {X : L2.Cx} (g : Good T k X) {fuel : Nat} {tg e : Expr} {m : M} (h : trE T X.N fuel X.env.scope e = some m) : L2.PI X tg e (gI T (n + 1) k (.of m) X.K) := by
  have pe := hE k X g fuel e m h
  refine pi_by fun σ H R ⟨ρ, w, it, w', α, hr, rs, kv⟩ => ?_
  obtain ⟨x, w1, e1, e2⟩ := onV_some (show onV _ _ = _ from hr)
  simp only [Option.map_eq_some_iff] at e2
  obtain ⟨it', e3, e4⟩ := e2
  cases e4
  cases x with
  | tup ds =>
    cases e3
    exact ⟨_, L2.pi_tup pe, gE_in e1 rs fun α1 v H1 x1 rh1 rd1 => by
      obtain ⟨a, vs, rfl, s, r⟩ := rd1.tup'
      exact ⟨a, rfl, ⟨vs, s⟩, kv α1 H1 _ x1 rh1 (itOk_tup s r)⟩⟩
  | str z =>
    cases e3
    exact ⟨_, L2.pi_str pe, gE_in e1 rs fun α1 v H1 x1 rh1 rd1 => by
      cases rd1
      exact ⟨z, rfl, kv α1 H1 _ x1 rh1 (itOk_str z)⟩⟩
  | ref j =>
    have e3 : (seqAt w' j).map (fun _ => It.list j) = some it := e3
    simp only [Option.map_eq_some_iff] at e3
    obtain ⟨ds, e5, rfl⟩ := e3
    exact ⟨_, L2.pi_list pe, gE_in e1 rs fun α1 v H1 x1 rh1 rd1 => by
      obtain ⟨p, vs, hp, s, r⟩ := seq_of rh1 e5
      rw [rd1.place hp]
      exact ⟨p, rfl, ⟨vs, s⟩, kv α1 H1 _ x1 rh1 (itOk_list hp)⟩⟩
  | _ => cases e3
theorem tup_of {tg : Expr} (h : isTup tg = true) : ∃ es k p, tg = .Tuple es k p := by
  cases tg <;> first | exact ⟨_, _, _, rfl⟩ | cases h
theorem star1 {e : Expr} {env : Env} (h : okE e = true) : starEach [e] env = [(false, eval e env)] := star_cons h
theorem okI_step (hE : OkE T n) (hEs : OkEs T n) : OkI T (n + 1) := by
  intro k X g fuel tg e i h
  unfold trI at h
  split at h
  · rename_i f p args pos
    split at h
    · rename_i gf
      split at h
      -- range
      · rename_i hf
        subst hf
        have hm := g.facts.blt "range" (by decide +kernel)
        split at h
        · rename_i a
          simp only [Option.map_eq_some_iff] at h
          obtain ⟨x, hx, rfl⟩ := h
          have pa := hEs k X g fuel [a] [x] (by simp [mapO, hx])
          refine pi_by fun σ H R ⟨ρ, w, it, w', α, hr, rs, kv⟩ => ⟨_, L2.pi_range1 (gl_of gf) hm pa (star1 (tr_ok hx)), ?_⟩
          obtain ⟨ds, w1, e1, e2⟩ := onVs_some (show onVs _ _ = _ from hr)
          simp only [Option.map_eq_some_iff] at e2
          obtain ⟨xs, e3, e4⟩ := e2
          cases e4
          refine ⟨ρ, w, ds, _, α, e1, rs, fun α1 vs H1 x1 rh1 rd1 => ?_⟩
          obtain ⟨d1, es, h1, rfl, q1, q2⟩ := exs_cons e1
          obtain ⟨rfl, rfl⟩ := exs_nil q2
          obtain ⟨v, rfl, rv⟩ := rd1.one
          unfold rangeD at e3
          cases d1 <;> simp only at e3 <;> try cases e3
          rename_i j
          split at e3
          · rename_i hj
            cases e3
            cases rv
            exact ⟨j, rfl, hj.1, hj.2, kv α1 H1 _ x1 rh1 (itOk_range 0 j.toNat _ (by simp [rgI]))⟩
          · cases e3
        · rename_i a b
          split at h
          · rename_i x y hx hy
            cases h
            have pa := hEs k X g fuel [a, b] [x, y] (by simp [mapO, hx, hy])
            refine pi_by fun σ H R ⟨ρ, w, it, w', α, hr, rs, kv⟩ => ⟨_, L2.pi_range2 (gl_of gf) hm pa (by rw [star_cons (tr_ok hx), star1 (tr_ok hy)]) (star1 (tr_ok hy)), ?_⟩
            obtain ⟨ds, w1, e1, e2⟩ := onVs_some (show onVs _ _ = _ from hr)
            simp only [Option.map_eq_some_iff] at e2
            obtain ⟨xs, e3, e4⟩ := e2
            cases e4
            refine ⟨ρ, w, ds, _, α, e1, rs, fun α1 vs H1 x1 rh1 rd1 => ?_⟩
            obtain ⟨d1, es, h1, rfl, q1, q2⟩ := exs_cons e1
            obtain ⟨d2, es2, h2, rfl, q3, q4⟩ := exs_cons q2
            obtain ⟨rfl, rfl⟩ := exs_nil q4
            obtain ⟨v, u, rfl, rv, ru⟩ := rd1.two
            unfold rangeD at e3
            cases d1 <;> cases d2 <;> simp only at e3 <;> try cases e3
            rename_i i j
            split at e3
            · rename_i hj
              cases e3
              cases rv; cases ru
              exact ⟨i, j, rfl, hj, kv α1 H1 _ x1 rh1 (itOk_range i (j - i).toNat _ rfl)⟩
            · cases e3
          · cases h
        · cases h
      · split at h
        -- enumerate
        · rename_i hf
          subst hf
          have hm := g.facts.blt "enumerate" (by decide +kernel)
          split at h
          · rename_i a
            split at h
            · rename_i ht
              obtain ⟨es, kk, tp, rfl⟩ := tup_of ht
              simp only [Option.map_eq_some_iff] at h
              obtain ⟨x, hx, rfl⟩ := h
              have pa := hEs k X g fuel [a] [x] (by simp [mapO, hx])
              have pa : L2.PA X [a] (L2.tCons (gE T n k x X.K) L2.tNil) := L2.pa_cons (hE k X g fuel a x hx) L2.pa_nil (star1 (tr_ok hx))
              refine pi_by fun σ H R ⟨ρ, w, it, w', α, hr, rs, kv⟩ => ⟨_, pi_ent (gl_of gf) hm pa (star1 (tr_ok hx)), ?_⟩
              obtain ⟨d, w1, e1, e2⟩ := onV_some (show onV _ _ = _ from hr)
              refine gE_in e1 rs fun α1 v H1 x1 rh1 rd1 => ?_
              show ∃ a xs, [v] = [L2.V.ref a] ∧ _
              cases d <;> simp only at e2 <;> try cases e2
              · obtain ⟨a, vs, rfl, s, r⟩ := rd1.tup'
                exact ⟨a, vs, rfl, .inr ⟨s, kv α1 H1 _ x1 rh1 (itOk_enumT s r)⟩⟩
              · simp only [Option.map_eq_some_iff] at e2
                obtain ⟨ds, e5, e6⟩ := e2
                cases e6
                obtain ⟨p, vs, hp, s, r⟩ := seq_of rh1 e5
                rw [rd1.place hp]
                exact ⟨p, vs, rfl, .inl ⟨s, kv α1 H1 _ x1 rh1 (itOk_enum hp)⟩⟩
            · cases h
          · cases h
        · split at h
          -- zip
          · rename_i hf
            subst hf
            have hm := g.facts.blt "zip" (by decide +kernel)
            split at h
            · rename_i a b
              split at h
              · rename_i ht
                obtain ⟨es, kk, tp, rfl⟩ := tup_of ht
                split at h
                · rename_i x y hx hy
                  cases h
                  have s1 : starEach [a, b] X.env = (false, eval a X.env) :: starEach [b] X.env := star_cons (tr_ok hx)
                  have pa : L2.PA X [a, b] (L2.tCons (gE T n k x X.K) (L2.tCons (gE T n k y X.K) L2.tNil)) := L2.pa_cons (hE k X g fuel a x hx) (L2.pa_cons (hE k X g fuel b y hy) L2.pa_nil (star1 (tr_ok hy))) s1
                  refine pi_by fun σ H R ⟨ρ, w, it, w', α, hr, rs, kv⟩ => ⟨_, RZ.pi_zipA (gl_of gf) hm pa s1 (star_plain fun z hz => by rw [List.mem_singleton.mp hz]; exact tr_ok hy), ?_⟩
                  obtain ⟨d, w1, e1, e2⟩ := onV_some (show onV _ _ = _ from hr)
                  obtain ⟨d2, w2, e3, e4⟩ := onV_some e2
                  refine gE_in e1 rs fun α1 v H1 x1 rh1 rd1 => gE_in e3 (rs.mono x1 rh1) fun α2 u H2 x2 rh2 rd2 => ?_
                  have rd1' := rd1.mono x2 _ _
                  show ∃ a b xs ys, [v, u] = [L2.V.ref a, L2.V.ref b] ∧ _
                  cases d <;> cases d2 <;> simp only at e4 <;> try cases e4
                  · obtain ⟨a, vs, rfl, s, r⟩ := rd1'.tup'
                    obtain ⟨b, us, rfl, s', r'⟩ := rd2.tup'
                    exact ⟨a, b, vs, us, rfl, .inr ⟨s, s', kv α2 H2 _ (x1.trans x2) rh2 (itOk_zipT s r s' r')⟩⟩
                  · split at e4
                    · rename_i xs ys hxs hys
                      cases e4
                      obtain ⟨p, vs, hp, s, r⟩ := seq_of rh2 hxs
                      obtain ⟨q, us, hq, s', r'⟩ := seq_of rh2 hys
                      rw [rd1'.place hp, rd2.place hq]
                      exact ⟨p, q, vs, us, rfl, .inl ⟨s, s', kv α2 H2 _ (x1.trans x2) rh2 (itOk_zip hp hq)⟩⟩
                    · cases e4
                · cases h
              · cases h
            · cases h
          · split at h
            -- reversed
            · rename_i hf
              subst hf
              have hm := g.facts.blt "reversed" (by decide +kernel)
              split at h
              · rename_i a
                simp only [Option.map_eq_some_iff] at h
                obtain ⟨x, hx, rfl⟩ := h
                refine pi_by fun σ H R ⟨ρ, w, it, w', α, hr, rs, kv⟩ => ⟨_, RT.pi_revA (gl_of gf) hm (hE k X g fuel a x hx) (star_cons (tr_ok hx)), ?_⟩
                obtain ⟨d, w1, e1, e2⟩ := onV_some (show onV _ _ = _ from hr)
                refine gE_in e1 rs fun α1 v H1 x1 rh1 rd1 => ?_
                cases d <;> simp only at e2 <;> try cases e2
                · obtain ⟨a, vs, rfl, s, r⟩ := rd1.tup'
                  exact ⟨a, vs, rfl, .inr ⟨s, kv α1 H1 _ x1 rh1 (itOk_revT s r)⟩⟩
                · simp only [Option.map_eq_some_iff] at e2
                  obtain ⟨ds, e5, e6⟩ := e2
                  cases e6
                  obtain ⟨p, vs, hp, s, r⟩ := seq_of rh1 e5
                  rw [rd1.place hp]
                  refine ⟨p, vs, rfl, .inl ⟨s, kv α1 H1 _ x1 rh1 ?_⟩⟩
                  rw [r.length]
                  exact itOk_rev hp
              · cases h
            · simp only [Option.map_eq_some_iff] at h
              obtain ⟨x, hx, rfl⟩ := h
              exact of_ok hE g hx
    · cases h
  · simp only [Option.map_eq_some_iff] at h
    obtain ⟨x, hx, rfl⟩ := h
    exact of_ok hE g hx
/-! ### targets -/
theorem wipe_set (σ : L2.St) (i : Nat) (x : Option V) : ∀ {own : List Nat}, own.contains i = true → L2.wipe (σ.set i x) own = L2.wipe σ own := fun {own} h => by
  have hi : i ∈ own := by simpa using h
  refine List.ext_getElem? fun j => ?_
  by_cases hj : j ∈ own
  · have z : ∀ τ : L2.St, (L2.wipe τ own)[j]? = if j < τ.length then some none else none := fun τ => by
      have l1 := L2.wipe_length τ own
      split
      · rename_i hl
        cases e : (L2.wipe τ own)[j]? with
        | none => have := List.getElem?_eq_none_iff.mp e; omega
        | some o => cases o with
          | none => rfl
          | some v => exact absurd hj (L2.wipe_some e).2
      · exact List.getElem?_eq_none_iff.mpr (by omega)
    rw [z, z, List.length_set]
  · rw [L2.wipe_out hj, L2.wipe_out hj, List.getElem?_set_ne (fun e : i = j => hj (by rw [← e]; exact hi))]
def okG : Expr → Bool
  | .Name .. => true | .Tuple .. => true | .Subscript .. => true | _ => false
theorem trT_ok {N : List Str} {ck : Str → Bool} {rec : Scope → Expr → Option M} {f : Nat} {sc : Scope} {e : Expr} {t : Z.T} (h : trT N ck rec f sc e = some t) : okG e = true := by
  cases f with
  | zero => simp [trT] at h
  | succ f =>
    unfold trT at h
    split at h <;> first | rfl | cases h
theorem each_cons {e : Expr} {es : List Expr} {env : Env} (h : okG e = true) : assignEach (e :: es) env = (false, assign e env) :: assignEach es env := by
  cases e <;> first | rfl | cases h
theorem each_ok {N : List Str} {ck : Str → Bool} {rec : Scope → Expr → Option M} {f : Nat} {sc : Scope} {env : Env} : ∀ {es : List Expr} {ts : List Z.T}, mapO (trT N ck rec f sc) es = some ts → (assignEach es env).length = ts.length ∧ (assignEach es env).findIdx? (·.1) = none
  | [], ts, h => by rw [mapO_nil h]; exact ⟨rfl, rfl⟩
  | e :: es, ts, h => by
    obtain ⟨t, ts', h1, h2, rfl⟩ := mapO_cons h
    obtain ⟨i1, i2⟩ := each_ok (env := env) h2
    rw [each_cons (trT_ok h1)]
    refine ⟨by simp [i1], ?_⟩
    rw [List.findIdx?_cons]
    simp [i2]
theorem okA_step (hE : OkE T n) (hAs : OkAs T n) : OkA T (n + 1) := by
  intro k X g ck hck fuel f2 e t h
  cases f2 with
  | zero => simp [trT] at h
  | succ f2 =>
  unfold trT at h
  split at h
  · rename_i x p
    split at h
    · rename_i hc
      simp only [Option.map_eq_some_iff] at h
      obtain ⟨i, hi, rfl⟩ := h
      have hl : L2.Loc X.env.scope x ∧ (X.fn x = true ∨ X.env.scope.names.lookup x = some .local) := by
        simp only [Bool.or_eq_true, Bool.and_eq_true] at hc
        rcases hc with hc | hc
        · exact ⟨.inl (only_of hc), .inr (only_of hc)⟩
        · exact ⟨loc_of hc.1, .inl (hck x hc.2)⟩
      refine pg_by fun v σ H Q hlen ⟨ρ, w, d, ρ', w', α, hr, rs, rd, q⟩ => ⟨_, L2.pg_name g.nd (ix_of hi) hl.1 hl.2, ?_⟩
      cases hr
      have hi' : i < σ.length := by rw [hlen]; exact (List.getElem?_eq_some_iff.mp (ix_of hi)).1
      exact q α _ H .refl (rs.set i rd hi') fun own f hf => by
        cases f with
        | zero => cases hf
        | succ f => exact wipe_set σ i _ hf
    · cases h
  · rename_i es kk p
    simp only [Option.map_eq_some_iff] at h
    obtain ⟨ts, hts, rfl⟩ := h
    obtain ⟨l1, l2⟩ := each_ok (env := X.env) hts
    refine pg_by fun v σ H Q hlen ⟨ρ, w, d, ρ', w', α, hr, rs, rd, q⟩ => ⟨_, L2.pg_tup g.calm (hAs k X g ck hck fuel f2 es ts hts) l1 l2, ?_⟩
    cases d with
    | tup ds =>
      have hr : (if ds.length = ts.length then run T n (.ass k ts ds ρ w) else none) = some (.nx ρ' w') := hr
      split at hr
      · rename_i hl
        obtain ⟨a, vs, rfl, s, r⟩ := rd.tup'
        refine ⟨a, vs, rfl, s, by rw [← r.length]; exact hl, ρ, w, ds, ρ', w', α, hr, rs, r, fun α1 σ1 H1 x1 rs1 hw => q α1 σ1 H1 x1 rs1 fun own f hf => ?_⟩
        cases f with
        | zero => cases hf
        | succ f => exact hw own f hf
      · cases hr
    | _ => cases hr
  · rename_i o i p
    split at h
    · rename_i oki
      split at h
      · rename_i a b ha hb
        cases h
        refine pg_by fun v σ H Q hlen ⟨ρ, w, d, ρ', w', α, hr, rs, rd, q⟩ => ?_
        obtain ⟨x1, w1, e1, f1⟩ := onV_some (show onV _ _ = _ from hr)
        obtain ⟨y1, w2, e2, f2⟩ := onV_some f1
        simp only [Option.map_eq_some_iff] at f2
        obtain ⟨w3, f3, f4⟩ := f2
        cases f4
        obtain ⟨r, ps, spec⟩ := set_ok (X := X) g.hu f3
        have asg : ∀ v, assign (.Subscript o i p) X.env v = (do
            let ov ← holding [v] (eval o X.env)
            let iv ← holding [v, ov] (eval i X.env)
            standAt p
            holding [v, ov, iv] (setItem ov iv v)
            release [v, ov, iv] []) := fun v => by
          cases i <;> first | rfl | cases oki
        refine ⟨_, L2.pg_sub (hE k X g fuel o a ha) (hE k X g fuel i b hb) ps asg, ?_⟩
        exact gE_in e1 rs fun α1 v1 H1 x1 rh1 rd1 => gE_in e2 (rs.mono x1 rh1) fun α2 v2 H2 x2 rh2 rd2 =>
          spec α2 H2 v1 v2 v _ rh2 (rd1.mono x2 _ _) rd2 (rd.mono (x1.trans x2) _ _) fun H3 x3 rh3 => q α2 σ H3 ((x1.trans x2).trans x3) (rs.mono ((x1.trans x2).trans x3) rh3) fun own f hf => by
            cases f <;> cases hf
      · cases h
    · cases h
  · cases h
theorem okAs_step (hA : OkA T n) (hAs : OkAs T n) : OkAs T (n + 1) := by
  intro k X g ck hck fuel f2 es ts h
  cases es with
  | nil =>
    have := mapO_nil h
    subst this
    refine pgs_by fun v σ H Q ⟨ρ, w, ds, ρ', w', α, hr, rs, rd, q⟩ => ⟨_, L2.pgs_nil, ?_⟩
    cases ds with
    | nil =>
      cases hr
      cases rd
      exact ⟨rfl, q α σ H .refl rs fun _ _ _ => rfl⟩
    | cons d dr => cases hr
  | cons e es =>
    obtain ⟨t, ts', h1, h2, rfl⟩ := mapO_cons h
    refine pgs_by fun v σ H Q ⟨ρ, w, ds, ρ', w', α, hr, rs, rd, q⟩ => ⟨_, L2.pgs_cons (hA k X g ck hck fuel f2 e t h1) (hAs k X g ck hck fuel f2 es ts' h2) (by rw [each_cons (trT_ok h1)]; rfl), ?_⟩
    cases ds with
    | nil => cases hr
    | cons d dr =>
      obtain ⟨ρ1, w1, e1, e2⟩ := onN_some (show onN _ _ = _ from hr)
      cases rd with
      | cons ra rb =>
        refine ⟨_, _, rfl, ρ, w, d, ρ1, w1, α, e1, rs, ra, fun α1 σ1 H1 x1 rs1 hw1 => ?_⟩
        refine ⟨ρ1, w1, dr, ρ', w', α1, e2, rs1, rb.mono x1 _ _, fun α2 σ2 H2 x2 rs2 hw2 => q α2 σ2 H2 (x1.trans x2) rs2 fun own f hf => ?_⟩
        rw [List.all_cons, Bool.and_eq_true] at hf
        exact (hw2 own f hf.2).trans (hw1 own f hf.1)
end Z
set_option maxHeartbeats 1000000
/-! ZA: statements, blocks, calls; all of it by induction. -/
namespace Z
open PySem PySem.Spec PyProof.Rows L2
variable {T : Tbl} {n : Nat}
theorem onBody_some {a : Option R} {f : Lo → Hq → Option R} {r : R} (h : onBody a f = some r) :
    (∃ ρ w, (a = some (.nx ρ w) ∨ a = some (.cont ρ w)) ∧ f ρ w = some r) ∨ (∃ ρ w, a = some (.brk ρ w) ∧ r = .nx ρ w) ∨ (∃ d w, a = some (.ret d w) ∧ r = .ret d w) := by
  cases a with
  | none => cases h
  | some x =>
    cases x <;> first | (cases h; done) | skip
    · exact .inl ⟨_, _, .inl rfl, h⟩
    · cases h; exact .inr (.inr ⟨_, _, rfl, rfl⟩)
    · cases h; exact .inr (.inl ⟨_, _, rfl, rfl⟩)
    · exact .inl ⟨_, _, .inr rfl, h⟩
theorem onStmt_some {a : Option R} {f : Lo → Hq → Option R} {r : R} (h : onStmt a f = some r) :
    (∃ ρ w, a = some (.nx ρ w) ∧ f ρ w = some r) ∨ (∃ ρ w, a = some (.brk ρ w) ∧ r = .brk ρ w) ∨ (∃ ρ w, a = some (.cont ρ w) ∧ r = .cont ρ w) ∨ (∃ d w, a = some (.ret d w) ∧ r = .ret d w) := by
  cases a with
  | none => cases h
  | some x =>
    cases x <;> first | (cases h; done) | skip
    · exact .inl ⟨_, _, rfl, h⟩
    · cases h; exact .inr (.inr (.inr ⟨_, _, rfl, rfl⟩))
    · cases h; exact .inr (.inl ⟨_, _, rfl, rfl⟩)
    · cases h; exact .inr (.inr (.inl ⟨_, _, rfl, rfl⟩))
theorem After.mono {K : Frag} {α α' : List Addr} {H H' : Hp} {r : R} {D : L2.Ends} (a : After K α H r D) (x : XE K α H α' H') : After K α' H' r D := by
  cases r <;> first | exact a.elim | skip
  · exact fun α2 σ2 H2 x2 => a α2 σ2 H2 (x.trans x2)
  · exact Kv.mono a x
  · exact fun α2 σ2 H2 x2 => a α2 σ2 H2 (x.trans x2)
  · exact fun α2 σ2 H2 x2 => a α2 σ2 H2 (x.trans x2)
theorem After.here {K : Frag} {α : List Addr} {H : Hp} {ρ : Lo} {h : Hq} {σ : L2.St} {D : L2.Ends} (a : After K α H (.nx ρ h) D) (rs : RS K α ρ h σ H) : D.nx σ H := a α σ H .refl rs
/-! ### which stores are exchanged -/
theorem kind_only (env : Env) (id : Str) : (env.kindOf id == some .local) = onlyLoc env.scope id := by
  unfold Env.kindOf onlyLoc
  cases env.scope.names.lookup id with
  | none => rfl
  | some k => cases k <;> rfl
theorem sw_lc {elt : Expr} {gs : List Comprehension} {scope : Scope} {pos py : Pos} {y : Str} {l : Nat} {env : Env} (hk : env.scope.kind = .function) :
    swapsWith (.ListComp elt gs scope pos) (some (.Name y py)) l env = pure (swB env.scope y py pos scope) := by
  have hb : env.blockKind = .function := by unfold Env.blockKind; rw [hk]; rfl
  unfold swapsWith swB
  simp only [hb, kind_only, Expr.pos]
  rfl
def nameAt (sc : Scope) (l : Nat) : Expr → Option Str
  | .Name id pos => if onlyLoc sc id && pos.line == l then some id else none
  | _ => none
theorem pair_eq (sc : Scope) (ts : List Expr) : pairNames sc ts = ts.filterMap (nameAt sc ((ts.head?.map (·.pos.line)).getD 0)) := by
  unfold pairNames
  refine congrArg (fun f => ts.filterMap f) (funext fun e => ?_)
  cases e <;> rfl
theorem names_form {sc : Scope} {l : Nat} : ∀ {ts : List Expr}, (ts.filterMap (nameAt sc l)).length = ts.length →
    ∃ xs : List (Str × Pos), ts = xs.map (fun p => .Name p.1 p.2) ∧ ts.filterMap (nameAt sc l) = xs.map (·.1) ∧ ∀ p ∈ xs, onlyLoc sc p.1 = true
  | [], _ => ⟨[], rfl, rfl, by simp⟩
  | t :: ts, h => by
    have le := List.length_filterMap_le (nameAt sc l) ts
    rw [List.filterMap_cons] at h
    cases e : nameAt sc l t with
    | none => rw [e] at h; simp only [List.length_cons] at h; omega
    | some x =>
      rw [e] at h
      simp only [List.length_cons, Nat.add_right_cancel_iff] at h
      obtain ⟨xs, h1, h2, h3⟩ := names_form h
      have ⟨p, h4, h5⟩ : ∃ p, t = .Name x p ∧ onlyLoc sc x = true := by
        unfold nameAt at e
        split at e
        · split at e
          · rename_i hc
            cases e
            exact ⟨_, rfl, (Bool.and_eq_true _ _ ▸ hc).1⟩
          · cases e
        · cases e
      refine ⟨(x, p) :: xs, by rw [h4]; simp [← h1], ?_, ?_⟩
      · rw [List.filterMap_cons, e, h2]; rfl
      · intro q hq
        rcases List.mem_cons.mp hq with rfl | hq
        · exact h5
        · exact h3 q hq
theorem fm_names {env : Env} {ts : List Expr} {f : Expr → Option Str} (hf : ∀ e, f e = nameAt env.scope ((ts.head?.map (·.pos.line)).getD 0) e) : ts.filterMap f = pairNames env.scope ts := by
  rw [pair_eq, funext hf]
theorem no_star {vs : List Expr} {f : Expr → Bool} (h : vs.all okE = true) (hf : ∀ e, okE e = true → f e = false) : vs.any f = false := by
  rw [List.any_eq_false]
  intro x hx
  rw [hf x (List.all_eq_true.mp h x hx)]
  exact Bool.false_ne_true
theorem block_fn {env : Env} (hk : env.scope.kind = .function) : env.blockKind = .function := by unfold Env.blockKind; rw [hk]; rfl
theorem sw_names {env : Env} {ts vs : List Expr} {kt k2 pt pt2} (hk : env.scope.kind = .function) (h : parB env.scope ts vs = true) : swappedStores [.Tuple ts kt pt] (.Tuple vs k2 pt2) env = pure (some (pairNames env.scope ts)) := by
  unfold parB at h
  simp only [Bool.and_eq_true] at h
  obtain ⟨⟨⟨⟨⟨⟨h1, h2⟩, h3⟩, h4⟩, h5⟩, h6⟩, h7⟩ := h
  unfold swappedStores
  simp only [pure_bind]
  rw [fm_names (env := env) (fun e => by cases e <;> first | rfl | simp only [nameAt, kind_only]), no_star h7 (fun e he => by cases e <;> first | rfl | cases he), block_fn hk]
  have e2 : (vs.length != ts.length) = false := by rw [bne, h2]; rfl
  have e3 : ((pairNames env.scope ts).length != ts.length) = false := by rw [bne, h3]; rfl
  have e4 : ((pairNames env.scope ts).eraseDups.length != (pairNames env.scope ts).length) = false := by
    have a := eq_of_beq h3
    have b := eq_of_beq h4
    rw [a, b]; simp
  have e5 : vs.all (foldedForSure 8) = false := by simpa using h5
  have e6 : vs.all (constantsAlone 8) = false := by simpa using h6
  have e7 : (ScopeKind.function != ScopeKind.function) = false := rfl
  simp only [h1, e2, e3, e4, e5, e6, e7, Bool.not_true, Bool.or_false, Bool.false_eq_true, if_false]
theorem sw_none {env : Env} {ts vs : List Expr} {kt k2 pt pt2} (hk : env.scope.kind = .function) (h : noParB env.scope ts vs = true) : swappedStores [.Tuple ts kt pt] (.Tuple vs k2 pt2) env = pure none := by
  unfold noParB at h
  simp only [Bool.and_eq_true, Bool.or_eq_true] at h
  obtain ⟨h7, h⟩ := h
  unfold swappedStores
  simp only [pure_bind]
  rw [fm_names (env := env) (fun e => by cases e <;> first | rfl | simp only [nameAt, kind_only]), no_star h7 (fun e he => by cases e <;> first | rfl | cases he), block_fn hk]
  rcases h with (h | h) | h
  · simp only [h, Bool.true_or]
    split <;> rfl
  · simp only [h]
    split
    · rfl
    · simp only [Bool.false_eq_true, if_false]
      split <;> rfl
  · simp only [h, Bool.or_true, Bool.true_or]
    rfl
theorem as_nx : ∀ n, (∀ k t d ρ h r, run T n (.as k t d ρ h) = some r → ∃ ρ' h', r = .nx ρ' h') ∧ (∀ k ts ds ρ h r, run T n (.ass k ts ds ρ h) = some r → ∃ ρ' h', r = .nx ρ' h')
  | 0 => ⟨fun _ _ _ _ _ _ h => (nomatch h), fun _ _ _ _ _ _ h => (nomatch h)⟩
  | n + 1 => by
    obtain ⟨i1, i2⟩ := as_nx n
    refine ⟨fun k t d ρ h r e => ?_, fun k ts ds ρ h r e => ?_⟩
    · cases t with
      | name i => cases e; exact ⟨_, _, rfl⟩
      | tup ts =>
        cases d <;> first | (cases e; done) | skip
        rename_i ds
        have e : (if ds.length = ts.length then run T n (.ass k ts ds ρ h) else none) = some r := e
        split at e
        · exact i2 _ _ _ _ _ _ e
        · cases e
      | sub o i =>
        obtain ⟨x1, w1, e1, f1⟩ := onV_some (show onV _ _ = _ from e)
        obtain ⟨y1, w2, e2, f2⟩ := onV_some f1
        simp only [Option.map_eq_some_iff] at f2
        obtain ⟨w3, f3, f4⟩ := f2
        exact ⟨_, _, f4.symm⟩
      | bad => cases e
    · cases ts <;> cases ds <;> first | (cases e; exact ⟨_, _, rfl⟩) | (cases e; done) | skip
      obtain ⟨ρ1, w1, e1, e2⟩ := onN_some (show onN _ _ = _ from e)
      exact i2 _ _ _ _ _ _ e2
/-! ### statements -/
theorem bad_ps {k : Nat} {X : L2.Cx} {s : Stmt} : L2.PS X s (gS T (n + 1) k .bad X.K) := ps_by fun D σ H ⟨ρ, w, r, α, hr, rs, q⟩ => by cases hr
theorem asg_ok (hE : OkE T n) (hA : OkA T n) {k : Nat} {X : L2.Cx} (g : Good T k X) (hf : ∀ x, X.fn x = true) {fuel f2 : Nat} {t e : Expr} {tm : Z.T} {m : M} {pos : Pos} (h1 : trT X.N (fun _ => true) (trE T X.N fuel) f2 X.env.scope t = some tm) (h2 : trE T X.N fuel X.env.scope e = some m)
    (hs : swapsWith e (some t) pos.line X.env = pure false) (hw : swappedStores [t] e X.env = pure none) : L2.PS X (.Assign [t] e pos) (gS T (n + 1) k (.asg tm m) X.K) := by
  refine ps_by fun D σ H ⟨ρ, w, r, α, hr, rs, q⟩ => ⟨_, L2.ps_asg (hE k X g fuel e m h2) (hA k X g _ (fun x _ => hf x) fuel f2 t tm h1) hs hw (by rw [each_cons (trT_ok h1)]; rfl), ?_⟩
  obtain ⟨d, w1, e1, e2⟩ := onV_some (show onV _ _ = _ from hr)
  refine gE_in e1 rs fun α1 v H1 x1 rh1 rd1 => ?_
  obtain ⟨ρ', w', rfl⟩ := (as_nx n).1 _ _ _ _ _ _ e2
  exact ⟨ρ, w1, d, _, _, α1, e2, rs.mono x1 rh1, rd1, fun α2 σ2 H2 x2 rs2 _ => q α2 σ2 H2 (x1.trans x2) rs2⟩
theorem okSs_step (hS : OkS T n) (hSs : OkSs T n) : OkSs T (n + 1) := by
  intro k X g hf fuel ss
  cases ss with
  | nil =>
    refine pss_by fun D σ H ⟨ρ, w, r, α, hr, rs, q⟩ => ⟨_, L2.pss_nil, ?_⟩
    cases hr
    exact q.here rs
  | cons s ss =>
    refine pss_by fun D σ H ⟨ρ, w, r, α, hr, rs, q⟩ => ⟨_, L2.pss_cons (hS k X g hf fuel s) (hSs k X g hf fuel ss), ?_⟩
    rcases onStmt_some (show onStmt _ _ = _ from hr) with ⟨ρ1, w1, e1, e2⟩ | ⟨ρ1, w1, e1, rfl⟩ | ⟨ρ1, w1, e1, rfl⟩ | ⟨d, w1, e1, rfl⟩
    · exact ⟨ρ, w, _, α, e1, rs, fun α1 σ1 H1 x1 rs1 => ⟨ρ1, w1, r, α1, e2, rs1, q.mono x1⟩⟩
    · exact ⟨ρ, w, _, α, e1, rs, q⟩
    · exact ⟨ρ, w, _, α, e1, rs, q⟩
    · exact ⟨ρ, w, _, α, e1, rs, q⟩
end Z
set_option maxHeartbeats 1000000
/-! ZB: statements, calls; all of it by induction. -/
namespace Z
open PySem PySem.Spec PyProof.Rows L2
variable {T : Tbl} {n : Nat}
theorem lc_form {N : List Str} {fuel : Nat} {sc : Scope} {elt : Expr} {gs : List Comprehension} {scope : Scope} {p : Pos} {m : M} (h : trE T N fuel sc (.ListComp elt gs scope p) = some m) :
    ∃ f tg iter ifs, fuel = f + 1 ∧ gs = [⟨tg, iter, ifs, 0⟩] ∧ (let own := ownOf N scope
      let sc' := L2.relS scope sc
      if L2.blkC N sc scope own = true then (match trI (trE T N f) sc (isTup tg) iter, trT N (fun x => scope.names.lookup x == some .cell) (trE T N f) f sc' tg, trE T N f sc' elt with
        | some it, some t, some m => if okE iter = true ∧ tgOwn (own.map (·.2)) f t = true then (match ifs with
          | [] => some (M.lc (own.map (·.2)) it t none m)
          | [c] => (trE T N f sc' c).map fun c => M.lc (own.map (·.2)) it t (some c) m
          | _ => none) else none
        | _, _, _ => none) else none) = some m := by
  cases fuel with
  | zero => simp [trE] at h
  | succ f =>
    unfold trE at h
    split at h <;> first | (rename_i q; cases q; done) | skip
    · rename_i q; cases q; exact ⟨f, _, _, _, rfl, rfl, h⟩
    · cases h
theorem setLc_ok (hE : OkE T n) (hT : OkT T n) (hI : OkI T n) (hA : OkA T n) {k : Nat} {X : L2.Cx} (g : Good T k X) (hf : ∀ x, X.fn x = true) {fuel f2 : Nat} {y : Str} {py : Pos} {elt : Expr} {gs : List Comprehension} {scope : Scope} {p : Pos} {tm : Z.T} {m : M} {pos : Pos}
    (h1 : trT X.N (fun _ => true) (trE T X.N fuel) f2 X.env.scope (.Name y py) = some tm) (h2 : trE T X.N fuel X.env.scope (.ListComp elt gs scope p) = some m) : L2.PS X (.Assign [.Name y py] (.ListComp elt gs scope p) pos) (gS T (n + 1) k (.asg tm m) X.K) := by
  refine psi_by fun hk D σ H hlen ⟨ρ, w, r, α, hr, rs, q⟩ => ?_
  cases hsw : swB X.env.scope y py p scope with
  | false =>
    exact ⟨_, asg_ok hE hA g hf h1 h2 (by rw [sw_lc hk, hsw]) rfl, ρ, w, r, α, hr, rs, q⟩
  | true =>
    obtain ⟨f, tg, iter, ifs, rfl, rfl, h3⟩ := lc_form h2
    obtain ⟨wi, gg, tt, te, own, l1, l2, l3, l4, l5, l6, l7⟩ := (lc_parts hI hA hT hE g h3).get
    cases f2 with
    | zero => simp [trT] at h1
    | succ f2 =>
    unfold trT at h1
    simp only at h1
    split at h1
    · simp only [Option.map_eq_some_iff] at h1
      obtain ⟨i, hi, rfl⟩ := h1
      have hy : onlyLoc X.env.scope y = true := by
        unfold swB at hsw
        simp only [Bool.and_eq_true] at hsw
        exact hsw.1.1
      refine ⟨_, L2.ps_setLc g.calm g.nd (ix_of hi) (only_of hy) (by rw [sw_lc hk, hsw]) l1 l2 l3 l4 l5 l6, ?_⟩
      obtain ⟨d, w1, e1, e2⟩ := onV_some (show onV _ _ = _ from hr)
      refine l7 σ H _ (gE_in (run_succ e1) rs fun α1 v H1 x1 rh1 rd1 => ?_)
      have hi' : i < σ.length := by rw [hlen]; exact (List.getElem?_eq_some_iff.mp (ix_of hi)).1
      cases n with
      | zero => cases e2
      | succ n =>
        cases e2
        exact (q.mono x1).here ((rs.mono x1 rh1).set i rd1 hi')
    · cases h1
theorem nodup2 {x y : Str} (h : ([x, y] : List Str).eraseDups.length = 2) : x ≠ y := fun e => by
  subst e
  simp [List.eraseDups_cons] at h
theorem nodup3 {x y z : Str} (h : ([x, y, z] : List Str).eraseDups.length = 3) : x ≠ y ∧ x ≠ z ∧ y ≠ z := by
  refine ⟨fun e => ?_, fun e => ?_, fun e => ?_⟩
  · subst e
    by_cases hz : x = z
    · subst hz; simp [List.eraseDups_cons] at h
    · simp [List.eraseDups_cons, hz, Ne.symm hz] at h
  · subst e
    by_cases hz : x = y
    · subst hz; simp [List.eraseDups_cons] at h
    · simp [List.eraseDups_cons, hz, Ne.symm hz] at h
  · subst e
    by_cases hz : x = y
    · subst hz; simp [List.eraseDups_cons] at h
    · simp [List.eraseDups_cons, hz, Ne.symm hz] at h
theorem par_ok (hEs : OkEs T n) {k : Nat} {X : L2.Cx} (g : Good T k X) {fuel : Nat} {ts vs : List Expr} {kt k2 : Nat} {pt pt2 pos : Pos} {is : List Nat} {ms : List M} (hp : parB X.env.scope ts vs = true) (h1 : mapO (ix? X.N) (pairNames X.env.scope ts) = some is) (h2 : mapO (trE T X.N fuel X.env.scope) vs = some ms) :
    L2.PS X (.Assign [.Tuple ts kt pt] (.Tuple vs k2 pt2) pos) (gS T (n + 1) k (.par is ms) X.K) := by
  refine psi_by fun hk D σ H hlen ⟨ρ, w, r, α, hr, rs, q⟩ => ?_
  have hw := sw_names (kt := kt) (k2 := k2) (pt := pt) (pt2 := pt2) hk hp
  have hp' := hp
  unfold parB at hp
  simp only [Bool.and_eq_true] at hp
  obtain ⟨⟨⟨⟨⟨⟨p1, p2⟩, p3⟩, p4⟩, p5⟩, p6⟩, p7⟩ := hp
  have p3 := eq_of_beq p3
  have p4 := eq_of_beq p4
  have p2 := eq_of_beq p2
  rw [pair_eq] at p3
  obtain ⟨xs, f1, f2, f3⟩ := names_form p3
  rw [← pair_eq] at f2
  obtain ⟨ds, w1, e1, e2⟩ := onVs_some (show onVs _ _ = _ from hr)
  have pa := hEs k X g fuel vs ms h2
  have idx : ∀ {x : Str} {i : Nat}, ix? X.N x = some i → i < σ.length := fun h => by rw [hlen]; exact (List.getElem?_eq_some_iff.mp (ix_of h)).1
  have ne : ∀ {x y : Str} {i j : Nat}, ix? X.N x = some i → ix? X.N y = some j → x ≠ y → i ≠ j := fun h1 h2 h3 e => by
    subst e
    have a := ix_of h1
    have b := ix_of h2
    rw [a] at b; cases b; exact h3 rfl
  rw [f2] at h1 hw p4
  match xs, vs, f1, p2 with
  | [a, b], [u, v], f1, p2 =>
    subst f1
    simp only [List.map_cons, List.map_nil] at h1 hw p4
    obtain ⟨i, is', hi, h1', rfl⟩ := mapO_cons h1
    obtain ⟨j, is'', hj, h1'', rfl⟩ := mapO_cons h1'
    have := mapO_nil h1''
    subst this
    have nd := nodup2 p4
    have ij := ne hi hj nd
    refine ⟨_, L2.ps_par g.calm g.nd (ix_of hi) (ix_of hj) ij (only_of (f3 a (by simp))) (only_of (f3 b (by simp))) pa hw rfl, ?_⟩
    cases ds with
    | nil => cases e2
    | cons x dr =>
    cases dr with
    | nil => cases e2
    | cons y dr =>
    cases dr with
    | cons _ _ => cases e2
    | nil =>
      cases e2
      refine ⟨ρ, w, _, _, α, e1, rs, fun α1 vs H1 x1 rh1 rd1 => ?_⟩
      obtain ⟨v1, v2, rfl, r1, r2⟩ := rd1.two
      exact ⟨v1, v2, rfl, (q.mono x1).here (((rs.mono x1 rh1).set i r1 (idx hi)).set j r2 (by rw [List.length_set]; exact idx hj))⟩
  | [a, b, c], [u, v, t], f1, p2 =>
    subst f1
    simp only [List.map_cons, List.map_nil] at h1 hw p4
    obtain ⟨i, is', hi, h1', rfl⟩ := mapO_cons h1
    obtain ⟨j, is'', hj, h1'', rfl⟩ := mapO_cons h1'
    obtain ⟨l, is3, hl, h13, rfl⟩ := mapO_cons h1''
    have := mapO_nil h13
    subst this
    obtain ⟨n1, n2, n3⟩ := nodup3 p4
    refine ⟨_, L2.ps_par3 g.calm g.nd (ix_of hi) (ix_of hj) (ix_of hl) (ne hi hj n1) (ne hi hl n2) (ne hj hl n3) (only_of (f3 a (by simp))) (only_of (f3 b (by simp))) (only_of (f3 c (by simp))) pa hw rfl, ?_⟩
    cases ds with
    | nil => cases e2
    | cons x dr =>
    cases dr with
    | nil => cases e2
    | cons y dr =>
    cases dr with
    | nil => cases e2
    | cons z dr =>
    cases dr with
    | cons _ _ => cases e2
    | nil =>
      cases e2
      refine ⟨ρ, w, _, _, α, e1, rs, fun α1 vs H1 x1 rh1 rd1 => ?_⟩
      cases rd1 with
      | cons r1 rr =>
        obtain ⟨v2, v3, rfl, r2, r3⟩ := rr.two
        exact ⟨_, v2, v3, rfl, (q.mono x1).here ((((rs.mono x1 rh1).set i r1 (idx hi)).set j r2 (by rw [List.length_set]; exact idx hj)).set l r3 (by rw [List.length_set, List.length_set]; exact idx hl))⟩
  | [], _, f1, p2 => subst f1; cases p1
  | [_], _, f1, p2 => subst f1; cases p1
  | _ :: _ :: _ :: _ :: _, _, f1, p2 => subst f1; simp at p1
  | [a, b], [], f1, p2 => subst f1; cases p2
  | [a, b], [_], f1, p2 => subst f1; cases p2
  | [a, b], _ :: _ :: _ :: _, f1, p2 => subst f1; simp at p2
  | [a, b, c], [], f1, p2 => subst f1; cases p2
  | [a, b, c], [_], f1, p2 => subst f1; cases p2
  | [a, b, c], [_, _], f1, p2 => subst f1; cases p2
  | [a, b, c], _ :: _ :: _ :: _ :: _, f1, p2 => subst f1; simp at p2

theorem ite_at {P : Bool → Prop} {b : Bool} (h : P b) : P b := h
theorem okS_step (hE : OkE T n) (hEs : OkEs T n) (hT : OkT T n) (hI : OkI T n) (hA : OkA T n) (hSs : OkSs T n) : OkS T (n + 1) := by
  intro k X g hf fuel s
  obtain ⟨m, hm⟩ : ∃ m, trS T X.N fuel X.env.scope s = m := ⟨_, rfl⟩
  rw [hm]
  cases fuel with
  | zero => unfold trS at hm; subst hm; exact bad_ps
  | succ fuel =>
  unfold trS at hm
  split at hm
  -- return
  · subst hm
    refine ps_by fun D σ H ⟨ρ, w, r, α, hr, rs, q⟩ => ⟨_, L2.ps_retN, ?_⟩
    cases hr
    exact Kv.here rs.1 .non q
  · rename_i e p
    split at hm
    · rename_i m' h1
      subst hm
      refine ps_by fun D σ H ⟨ρ, w, r, α, hr, rs, q⟩ => ⟨_, L2.ps_ret (hE k X g fuel e m' h1), ?_⟩
      obtain ⟨d, w1, e1, e2⟩ := onV_some (show onV _ _ = _ from hr)
      cases e2
      exact gE_in e1 rs q
    · subst hm; exact bad_ps
  -- an expression
  · rename_i e p
    split at hm
    · subst hm; exact bad_ps
    · rename_i hc
      split at hm
      · rename_i m' h1
        subst hm
        refine ps_by fun D σ H ⟨ρ, w, r, α, hr, rs, q⟩ => ⟨_, L2.ps_expr (hE k X g fuel e m' h1) (sw_false (Bool.eq_false_iff.mpr hc)), ?_⟩
        obtain ⟨d, w1, e1, e2⟩ := onV_some (show onV _ _ = _ from hr)
        cases e2
        exact gE_in e1 rs fun α1 v H1 x1 rh1 rd1 => (q.mono x1).here (rs.mono x1 rh1)
      · subst hm; exact bad_ps
  -- pass, break, continue
  · subst hm
    exact ps_by fun D σ H ⟨ρ, w, r, α, hr, rs, q⟩ => by cases hr; exact ⟨_, L2.ps_pass, q.here rs⟩
  · subst hm
    exact ps_by fun D σ H ⟨ρ, w, r, α, hr, rs, q⟩ => by cases hr; exact ⟨_, L2.ps_break, q α σ H .refl rs⟩
  · subst hm
    exact ps_by fun D σ H ⟨ρ, w, r, α, hr, rs, q⟩ => by cases hr; exact ⟨_, L2.ps_continue, q α σ H .refl rs⟩
  -- if
  · rename_i t a b p
    split at hm
    · rename_i t' h1
      subst hm
      refine ps_by fun D σ H ⟨ρ, w, r, α, hr, rs, q⟩ => ⟨_, L2.ps_if (hT k X g fuel t t' h1).1 (hSs k X g hf fuel a) (hSs k X g hf fuel b), ?_⟩
      obtain ⟨c, w1, e1, e2⟩ := onB_some (show onB _ _ = _ from hr)
      refine gT_in e1 rs fun α1 H1 x1 rh1 => ?_
      cases c with
      | true => rw [if_pos rfl] at e2; exact L2.iteT ⟨ρ, w1, r, α1, e2, rs.mono x1 rh1, q.mono x1⟩
      | false => rw [if_neg Bool.false_ne_true] at e2; exact L2.iteF ⟨ρ, w1, r, α1, e2, rs.mono x1 rh1, q.mono x1⟩
    · subst hm; exact bad_ps
  -- while
  · rename_i t b p
    split at hm
    · rename_i t' h1
      subst hm
      refine ps_by fun D σ H ⟨ρ, w, r, α, hr, rs, q⟩ => ⟨_, L2.ps_while g.own (hT k X g fuel t t' h1).1 (hSs k X g hf fuel b), ?_⟩
      have hr : run T n (.whL k t' (b.map (trS T X.N fuel X.env.scope)) ρ w) = some r := hr
      refine ⟨fun m σ' H' => m ≤ n ∧ ∃ α' ρ' w', run T m (.whL k t' (b.map (trS T X.N fuel X.env.scope)) ρ' w') = some r ∧ XE X.K α H α' H' ∧ RS X.K α' ρ' w' σ' H', ⟨n, Nat.le_refl _, α, ρ, w, hr, .refl, rs⟩, ?_⟩
      rintro m σ' H' ⟨hmn, α', ρ', w', er, x, rs'⟩
      cases m with
      | zero => cases er
      | succ m =>
        have hmn' : m ≤ n := Nat.le_of_succ_le hmn
        obtain ⟨c, w1, e1, e2⟩ := onB_some (show onB _ _ = _ from er)
        refine gT_in (run_le hmn' e1) rs' fun α1 H1 x1 rh1 => ?_
        cases c with
        | false =>
          rw [if_neg Bool.false_ne_true] at e2
          cases e2
          exact L2.iteF (q α1 σ' H1 (x.trans x1) (rs'.mono x1 rh1))
        | true =>
          rw [if_pos rfl] at e2
          refine L2.iteT ⟨fun σ2 H2 => m ≤ n ∧ ∃ α' ρ' w', run T m (.whL k t' (b.map (trS T X.N fuel X.env.scope)) ρ' w') = some r ∧ XE X.K α H α' H2 ∧ RS X.K α' ρ' w' σ2 H2, fun σ2 H2 h2 => ⟨m, Nat.lt_succ_self _, h2⟩, ?_⟩
          rcases onBody_some e2 with ⟨ρ2, w2, e3, e4⟩ | ⟨ρ2, w2, e3, rfl⟩ | ⟨d, w2, e3, rfl⟩
          · rcases e3 with e3 | e3
            · exact ⟨ρ', w1, _, α1, run_le hmn' e3, rs'.mono x1 rh1, fun α2 σ2 H2 x2 rs2 => ⟨hmn', α2, ρ2, w2, e4, (x.trans x1).trans x2, rs2⟩⟩
            · exact ⟨ρ', w1, _, α1, run_le hmn' e3, rs'.mono x1 rh1, fun α2 σ2 H2 x2 rs2 => ⟨hmn', α2, ρ2, w2, e4, (x.trans x1).trans x2, rs2⟩⟩
          · exact ⟨ρ', w1, _, α1, run_le hmn' e3, rs'.mono x1 rh1, fun α2 σ2 H2 x2 rs2 => q α2 σ2 H2 ((x.trans x1).trans x2) rs2⟩
          · exact ⟨ρ', w1, _, α1, run_le hmn' e3, rs'.mono x1 rh1, Kv.mono q (x.trans x1)⟩
    · subst hm; exact bad_ps
  -- for
  · rename_i t i b p
    split at hm
    · rename_i t' i' h1 h2
      split at hm
      · rename_i hi
        subst hm
        refine ps_by fun D σ H ⟨ρ, w, r, α, hr, rs, q⟩ => ⟨_, L2.ps_for g.own g.calm (hI k X g fuel t i i' h2) (hA k X g _ (fun x _ => hf x) fuel fuel t t' h1) (hSs k X g hf fuel b) (folded_ok hi), ?_⟩
        obtain ⟨it, w0, e0, hr⟩ := onI_some (show onI _ _ = _ from hr)
        refine ⟨ρ, w, it, w0, α, e0, rs, fun α0 H0 J x0 rh0 jo => ?_⟩
        have q := q.mono x0
        have rs := rs.mono x0 rh0
        refine ⟨fun i m σ' H' => m ≤ n ∧ ∃ α' ρ' w', run T m (.forL k it i t' (b.map (trS T X.N fuel X.env.scope)) ρ' w') = some r ∧ XE X.K α0 H0 α' H' ∧ RS X.K α' ρ' w' σ' H', ⟨n, Nat.le_refl _, α0, ρ, w0, hr, .refl, rs⟩, ?_⟩
        rintro i m σ' H' ⟨hmn, α', ρ', w', er, x, rs'⟩
        cases m with
        | zero => cases er
        | succ m =>
          have hmn' : m ≤ n := Nat.le_of_succ_le hmn
          have j3 := jo α' w' H' x rs'.1 i
          simp only [run, step] at er
          split at er
          · cases er
          · rename_i ht0
            cases er
            rw [ht0] at j3
            exact .inl ⟨j3, q α' σ' H' x rs'⟩
          · rename_i d1 ht0
            rw [ht0] at j3
            obtain ⟨go, yl⟩ := j3
            obtain ⟨ρ1, w1, ea, er1⟩ := onN_some er
            refine .inr ⟨go, fun σ2 H2 => m ≤ n ∧ ∃ α' ρ' w', run T m (.forL k it (i + 1) t' (b.map (trS T X.N fuel X.env.scope)) ρ' w') = some r ∧ XE X.K α0 H0 α' H2 ∧ RS X.K α' ρ' w' σ2 H2, fun σ2 H2 h2 => ⟨m, Nat.lt_succ_self _, h2⟩, fun xv H4 hy => ?_⟩
            obtain ⟨x4, rh4, rd4⟩ := yl xv H4 hy
            refine ⟨ρ', w', d1, ρ1, w1, α', run_le hmn' ea, rs'.mono x4 rh4, rd4, fun α5 σ5 H5 x5 rs5 _ => ?_⟩
            have xx := (x.trans x4).trans x5
            rcases onBody_some er1 with ⟨ρ2, w2, e3, e4⟩ | ⟨ρ2, w2, e3, rfl⟩ | ⟨d, w2, e3, rfl⟩
            · rcases e3 with e3 | e3
              · exact ⟨ρ1, w1, _, α5, run_le hmn' e3, rs5, fun α2 σ2 H2 x2 rs2 => ⟨hmn', α2, ρ2, w2, e4, xx.trans x2, rs2⟩⟩
              · exact ⟨ρ1, w1, _, α5, run_le hmn' e3, rs5, fun α2 σ2 H2 x2 rs2 => ⟨hmn', α2, ρ2, w2, e4, xx.trans x2, rs2⟩⟩
            · exact ⟨ρ1, w1, _, α5, run_le hmn' e3, rs5, fun α2 σ2 H2 x2 rs2 => q α2 σ2 H2 (xx.trans x2) rs2⟩
            · exact ⟨ρ1, w1, _, α5, run_le hmn' e3, rs5, Kv.mono q xx⟩
      · subst hm; exact bad_ps
    · subst hm; exact bad_ps
  -- x += e
  · rename_i x p o e p2
    split at hm
    · rename_i hl
      have fin : ∀ {o : Operator} {o' : Op} {i : Nat} {m' : M} {f : Int → Int → Int}, ix? X.N x = some i → trE T X.N fuel X.env.scope e = some m' → L2.PIp X o (L2.ipI f) → (∀ ρ d w, stepS (run T n) k ρ w (.aug i o' m') = some d → ∃ a b w1 , ρ[i]? = some (some (.int a)) ∧ run T n (.ex k m' ρ w) = some (.val (.int b) w1) ∧ d = .nx (ρ.set i (some (.int (f a b)))) w1) → L2.PS X (.AugAssign (.Name x p) o e p2) (gS T (n + 1) k (.aug i o' m') X.K) := fun {o o' i m' f} hi he hip hst => by
        refine ps_by fun D σ H ⟨ρ, w, r, α, hr, rs, q⟩ => ⟨_, L2.ps_aug g.nd (ix_of hi) (loc_of hl) (hE k X g fuel e m' he) hip (.inl (hf x)), ?_⟩
        obtain ⟨a, b, w1, h1, h2, rfl⟩ := hst ρ r w hr
        obtain ⟨v, h3, h4⟩ := rs.2 i _ h1
        cases h4
        refine ⟨_, h3, gE_in h2 rs fun α1 u H1 x1 rh1 rd1 => ?_⟩
        cases rd1
        exact ⟨a, b, rfl, rfl, (q.mono x1).here ((rs.mono x1 rh1).set i (.int _) (List.getElem?_eq_some_iff.mp h3).1)⟩
      have inv : ∀ {o' : Op} {i : Nat} {m' : M} {ρ : Lo} {w : Hq} {d : R}, stepS (run T n) k ρ w (.aug i o' m') = some d → ∃ x y w1, ρ[i]? = some (some x) ∧ run T n (.ex k m' ρ w) = some (.val y w1) ∧ (match o', x, y with
          | .add, .int a, .int b => some (R.nx (ρ.set i (some (.int (a + b)))) w1)
          | .sub, .int a, .int b => some (R.nx (ρ.set i (some (.int (a - b)))) w1)
          | _, _, _ => none) = some d := fun {o' i m' ρ w d} h => by
        simp only [stepS] at h
        split at h
        · rename_i x hx
          obtain ⟨y, w1, e1, e2⟩ := onV_some h
          exact ⟨x, y, w1, hx, e1, e2⟩
        · cases h
      split at hm
      · rename_i i m' h1 h2 h3
        subst hm
        rw [opBack_ok h2]
        refine fin h1 h3 L2.ip_add fun ρ d w h => ?_
        obtain ⟨x, y, w1, a1, a2, a3⟩ := inv h
        cases x <;> cases y <;> first | (cases a3; done) | skip
        cases a3
        exact ⟨_, _, w1, a1, a2, rfl⟩
      · rename_i i m' h1 h2 h3
        subst hm
        rw [opBack_ok h2]
        refine fin h1 h3 L2.ip_sub fun ρ d w h => ?_
        obtain ⟨x, y, w1, a1, a2, a3⟩ := inv h
        cases x <;> cases y <;> first | (cases a3; done) | skip
        cases a3
        exact ⟨_, _, w1, a1, a2, rfl⟩
      · subst hm; exact bad_ps
    · subst hm; exact bad_ps
  -- t = e
  · rename_i t e p
    split at hm
    · rename_i ts kt pt vs k2 pt2
      split at hm
      · rename_i hp
        split at hm
        · rename_i is ms h1 h2
          split at hm
          · subst hm
            exact par_ok hEs g hp h1 h2
          · subst hm; exact bad_ps
        · subst hm; exact bad_ps
      · split at hm
        · rename_i hp
          split at hm
          · rename_i t' m' h1 h2
            subst hm
            exact psi_by fun hk D σ H hl q => ⟨_, asg_ok hE hA g hf h1 h2 (sw_false rfl) (sw_none hk hp), q⟩
          · subst hm; exact bad_ps
        · subst hm; exact bad_ps
    · rename_i hno
      split at hm
      · rename_i t' m' h1 h2
        subst hm
        have okt := trT_ok h1
        cases t <;> first | (cases okt; done) | skip
        all_goals
          cases hc : isComp e with
          | false =>
            refine asg_ok hE hA g hf h1 h2 (sw_false hc) ?_
            cases e <;> first | rfl | exact absurd rfl (hno _ _ _ _ _ _ rfl)
          | true =>
            cases e <;> first | (cases hc; done) | (have := tr_ok h2; cases this; done) | skip
            first
              | exact setLc_ok hE hT hI hA g hf h1 h2
              | exact asg_ok hE hA g hf h1 h2 (sw_notName fun _ _ z => nomatch z) rfl
      · subst hm; exact bad_ps
  · subst hm; exact bad_ps
end Z
set_option maxHeartbeats 1000000
/-! ZC: calls; all of it by induction; a law's end. -/
namespace Z
open PySem PySem.Spec PyProof.Rows L2
variable {T : Tbl} {n : Nat}
theorem onDef_some {a : Option R} {r : R} (h : onDef a = some r) : (∃ ρ w, a = some (.nx ρ w) ∧ r = .val .non w) ∨ (∃ d w, a = some (.ret d w) ∧ r = .val d w) := by
  cases a with
  | none => cases h
  | some x =>
    cases x <;> first | (cases h; done) | skip
    · cases h; exact .inl ⟨_, _, rfl, rfl⟩
    · cases h; exact .inr ⟨_, _, rfl, rfl⟩
theorem start_rs {K : Frag} {α : List Addr} {h : Hq} {H : Hp} {N : List Str} {ds : List D} {vs : List V} (rh : RH K α h H) (rd : RDs K α H ds vs) : RS K α (startL N.length ds) h (L2.start N vs) H := by
  refine ⟨rh, fun i d e => ?_⟩
  have hl := rd.length
  unfold startL at e
  unfold L2.start
  by_cases hi : i < ds.length
  · rw [List.getElem?_append_left (by simpa using hi), List.getElem?_map] at e
    rw [List.getElem?_append_left (by simpa [← hl] using hi), List.getElem?_map]
    cases e1 : ds[i]? with
    | none => rw [e1] at e; cases e
    | some d' =>
      rw [e1] at e; cases e
      obtain ⟨v, h1, h2⟩ := rd.get e1
      exact ⟨v, by rw [h1]; rfl, h2⟩
  · rw [List.getElem?_append_right (by simp; omega)] at e
    by_cases hj : i - (ds.map some).length < (N.length - ds.length)
    · rw [List.getElem?_replicate_of_lt hj] at e; cases e
    · rw [List.getElem?_eq_none (by simp at hj ⊢; omega)] at e; cases e
theorem okC_step (tk : TOk T) (hSs : OkSs T n) : OkC T (n + 1) := by
  intro k P w K mg base i F f fd fc hF at1
  cases k with
  | zero => exact ⟨fun vs H Q E ⟨h, ds, d, h', α, hr, _⟩ => (by cases hr), fun A outer s H args us vs Q _ _ _ _ _ ⟨h, ds, d, h', α, hr, _⟩ => (by cases hr)⟩
  | succ k =>
    obtain ⟨S, fuel, hb⟩ := tk i F hF
    have inv : ∀ {h : Hq} {ds : List D} {r : R}, run T (n + 1) (.call (k + 1) i ds h) = some r → ds.length = F.ps.length ∧ onDef (run T n (.sts k F.body (startL F.N.length ds) h)) = some r := fun {h ds r} hr => by
      simp only [run, step, hF] at hr
      split at hr
      · rename_i hl; exact ⟨hl, hr⟩
      · cases hr
    refine fn_g at1.fn S (fun vs H Q E ⟨h, ds, d, h', α, hr, rh, rd, kv⟩ => ?_) fun cd A outer s H vs Q room hg ⟨h, ds, d, h', α, hr, rh, rd, kv⟩ => ?_
    · rw [← rd.length]; exact (inv hr).1
    · have G : Good T k (L2.cxOf L2.CX0 P w K mg base F.N F.name (L2.defScope F.st) f cd A outer s H L2.E0).nox := ⟨rfl, S.nd, rfl, room, hg, fc⟩
      have ps := hSs k _ G (fun _ => rfl) fuel (L2.defBody F.st)
      refine ⟨_, ps, ?_⟩
      show gSs T n k ((L2.defBody F.st).map (trS T F.N fuel (L2.defScope F.st))) K _ _ _
      rw [hb]
      obtain ⟨hl, hr⟩ := inv hr
      rcases onDef_some hr with ⟨ρ1, w1, e1, e2⟩ | ⟨d1, w1, e1, e2⟩
      · cases e2
        exact ⟨_, h, _, α, e1, start_rs rh rd, fun α1 σ1 H1 x1 rs1 => kv α1 _ H1 x1 rs1.1 .non⟩
      · cases e2
        exact ⟨_, h, _, α, e1, start_rs rh rd, kv⟩
structure All (T : Tbl) (n : Nat) : Prop where
  e : OkE T n
  es : OkEs T n
  t : OkT T n
  i : OkI T n
  a : OkA T n
  as : OkAs T n
  s : OkS T n
  ss : OkSs T n
  c : OkC T n
theorem all_ok (tk : TOk T) : ∀ n, All T n
  | 0 => ⟨fun k X g fuel e m h => pe_by fun σ H Q ⟨ρ, w, d, w', α, hr, _⟩ => (nomatch hr), fun k X g fuel e m h => pa_by fun σ H Q ⟨ρ, w, d, w', α, hr, _⟩ => (nomatch hr),
      fun k X g fuel e m h => ⟨pt_by fun σ H Q ⟨ρ, w, d, w', α, hr, _⟩ => (nomatch hr), fun _ _ _ _ => pw_by fun σ H Q ⟨ρ, w, d, w', α, hr, _⟩ => (nomatch hr)⟩,
      fun k X g fuel tg e i h => pi_by fun σ H Q ⟨ρ, w, d, w', α, hr, _⟩ => (nomatch hr), fun k X g ck hck fuel f2 e t h => pg_by fun v σ H Q _ ⟨ρ, w, d, ρ', w', α, hr, _⟩ => (nomatch hr),
      fun k X g ck hck fuel f2 e t h => pgs_by fun v σ H Q ⟨ρ, w, d, ρ', w', α, hr, _⟩ => (nomatch hr), fun k X g hf fuel s => ps_by fun D σ H ⟨ρ, w, r, α, hr, _⟩ => (nomatch hr), fun k X g hf fuel s => pss_by fun D σ H ⟨ρ, w, r, α, hr, _⟩ => (nomatch hr),
      fun k P w K mg base i F f fd fc hF at1 => ⟨fun vs H Q E ⟨h, ds, d, h', α, hr, _⟩ => (nomatch hr), fun A outer s H args us vs Q _ _ _ _ _ ⟨h, ds, d, h', α, hr, _⟩ => (nomatch hr)⟩⟩
  | n + 1 => by
    obtain ⟨e, es, t, i, a, as, s, ss, c⟩ := all_ok tk n
    exact ⟨okE_step e es t i a c, okEs_step e es, okT_step e t, okI_step e es, okA_step e as, okAs_step a as, okS_step e es t i a ss, okSs_step s ss, okC_step tk ss⟩

/-! ### a law's end -/
/-- the law's def answers True, by the interpreter -/
def Says (T : Tbl) (k i n : Nat) : Prop := ∀ ns : List Int, ns.length ≤ n → ∃ w, ev T (.call k i [.ref 0] [.ro (ns.map .int)]) = some (.val (.bl true) w)
theorem law_g {P : Program} {w : World} {K : Frag} {mg mb : Str → Option Value} {k i : Nat} {F : Fn} {fa a : Addr} {fd : FuncData} {x : Str} {s₁ : Shared} {vs : List Value} {ns : List Int} (tk : TOk T) (fc : Facts T K mg) (hF : T.fns[i]? = some F) (at1 : FnAt K mg F fa fd) (hps : F.ps = [x])
    (KX : K.In s₁.heap) (hns : s₁.heap.Ns mainGlobals mg) (hb : s₁.heap.Ns builtinsNs mb) (hbb : ∀ x : Str, x ≠ "__name__" → mb x = bootBuiltins x) (hlim : s₁.heap.NoLimit) (hg : s₁.gens = #[]) (ha : s₁.heap.get? a = some { cls := .type "list", data := .seq vs.toArray }) (hi : IntsAre vs ns) (hl : ns.length ≤ sizeLine)
    (hr : L2.Room k callerA) (hsay : ∃ w, ev T (.call k i [.ref 0] [.ro (ns.map .int)]) = some (.val (.bl true) w)) :
    codeAny (model P w) callerA (.call (.ref fa) ⟨[.ref a], []⟩) (fun r s' => r = .ok (.ret (.bool true)) ∧ OldK s₁.heap s'.heap ∧ s'.os = s₁.os ∧ AllBare s'.gens) s₁ := by
  obtain ⟨wq, he⟩ := hsay
  obtain ⟨nf, hrun⟩ := ev_run _ _ he
  have rv := L2.vals_ints hi
  have hlv := hi.length
  have main : ∀ H : Hp, L2.Only H → L2.HOk P w H s₁.heap → (∀ b, H b ≠ none → b = a ∧ K.lookup b = none) → (∃ ws : List V, ((∃ ob, H a = some (.frz ob (.lst ws))) ∨ KL K a ws) ∧ ws = ns.map L2.V.int) →
      codeAny (model P w) callerA (.call (.ref fa) ⟨[.ref a], []⟩) (fun r s' => r = .ok (.ret (.bool true)) ∧ OldK s₁.heap s'.heap ∧ s'.os = s₁.os ∧ AllBare s'.gens) s₁ := by
    rintro H only hok hid ⟨ws, hws, rfl⟩
    have hidden : ∀ {b o}, s₁.heap.get? b = some o → (b = a → H b = none) → (L2.hidT s₁.heap H).get? b = some o := fun {b o} e z => by
      refine L2.hidT_get e ?_
      cases q : H b with
      | none => rfl
      | some u => have := z (hid b (by rw [q]; simp)).1; rw [q] at this; cases this
    have nsk : ∀ {b m}, s₁.heap.Ns b m → (L2.hidT s₁.heap H).Ns b m := fun {b m} ⟨o, es, ep, e, d, r⟩ => ⟨o, es, ep, hidden e (fun eb => by rw [eb, ha] at e; cases e; cases (show Data.seq vs.toArray _ = Data.dict es ep from d)), d, r⟩
    have kb : K.In (L2.hidT s₁.heap H) := fun b o e => L2.hidT_get (KX b o e) (by
      cases q : H b with
      | none => rfl
      | some u => have := (hid b (by rw [q]; simp)).2; rw [e] at this; cases this)
    obtain ⟨mc, l1, l2⟩ := hlim
    have e0 : L2.Env0 P w K mg (L2.hidT s₁.heap H) callerA [] s₁ H := ⟨rfl, ⟨kb, nsk hns, ⟨mb, nsk hb, hbb⟩, ⟨mc, nsk l1, l2⟩⟩, fun b o e => L2.of_hidT e, Nat.le_of_eq (L2.hidT_size _ _), trivial, fun b hb => (by cases hb), hok, .of_eq hg⟩
    have G := (all_ok tk nf).c k P w K mg (L2.hidT s₁.heap H) i F fa fd fc hF at1
    have bt : BindsTo s₁ fd ⟨[.ref a], []⟩ (F.ps.zip [.ref a]) := by
      have z := at1.binds s₁ [.ref a] KX (by rw [hps]; rfl)
      rw [List.append_nil] at z
      exact z
    have rh : RH K [a] [.ro (ns.map .int)] H := ⟨rfl, fun m o p e1 e2 => by
      cases m with
      | zero => cases e1; cases e2; exact ⟨_, hws, RDs.ints⟩
      | succ m => simp at e1, fun m n' o u p _ _ e1 e2 z1 z2 => by
      cases m with
      | zero => cases e1; cases z1
      | succ m => simp at e1⟩
    have sp : gC T nf k i K [.ref a] H (fun v _ => v = .bl true) L2.E0 := ⟨_, _, _, wq, [a], hrun, rh, .cons (.ref rfl) .nil, fun α' v H' x rh' rd => by cases rd; rfl⟩
    refine codeAny_mono (G.run callerA [] s₁ H ⟨[.ref a], []⟩ [.ref a] [.ref a] _ hr rfl e0 bt (.cons rfl .nil) sp) fun r s' h => ?_
    rcases r with e | fl
    · exact h.elim
    · cases fl <;> first | exact h.elim | skip
      obtain ⟨v, H', os, bare, un, hok', r', q⟩ := h
      cases (show v = .bl true from q)
      obtain rfl : _ = Value.bool true := r'
      refine ⟨rfl, OldK.of_keep fun b o e => ?_, os, bare⟩
      cases q : H b with
      | none => exact un.keep b o e q (by intro z; cases z) (by simp)
      | some u =>
        rcases only b with z | ⟨ob, xs, z⟩
        · rw [q] at z; cases z
        · obtain ⟨e1, _⟩ := hok b _ z
          obtain ⟨e2, _⟩ := hok' b _ (un.frzs b ob _ z)
          rw [e] at e1; cases e1
          exact e2
  cases hk : K.lookup a with
  | some o =>
    have e := KX a o hk
    rw [ha] at e; cases e
    exact main (fun _ => none) (fun _ => .inl rfl) (fun b u z => by cases (show (none : Option L2.HO) = some u from z)) (fun b z => absurd rfl z) ⟨_, .inr ⟨_, vs.toArray, _, hk, rfl, rfl, rfl, by rw [List.size_toArray, hlv]; exact hl, by simpa using rv⟩, rfl⟩
  | none =>
    refine main (fun b => if b = a then some (.frz { cls := .type "list", data := .seq vs.toArray } (.lst (ns.map V.int))) else none) (fun b => ?_) (fun b u z => ?_) (fun b z => ?_) ⟨_, .inl ⟨_, if_pos rfl⟩, rfl⟩
    · by_cases hb : b = a
      · exact .inr ⟨_, _, if_pos hb⟩
      · exact .inl (if_neg hb)
    · by_cases hb : b = a
      · cases (if_pos hb).symm.trans z
        subst hb
        exact ⟨ha, by rw [List.length_map]; exact hl, vs, _, rv, ha⟩
      · cases (if_neg hb).symm.trans z
    · by_cases hb : b = a
      · exact ⟨hb, hb ▸ hk⟩
      · exact absurd (if_neg hb) z
theorem walk_g {l : PySem.W.OpenLaw} {n k i : Nat} {q : Program} {loose : List Str} {XP : (Str → Option Value) → Heap → Prop} {YP : World → Heap → Prop} {d : DefRec} {K : Params → Frag} {x : Str} {F : Fn} (tk : TOk T) (hF : T.fns[i]? = some F) (hps : F.ps = [x]) (hname : F.name = d.name)
    (hn : l.most = some n) (hn2 : n ≤ sizeLine) (hdf : d.params.defaults = []) (hr : L2.Room k callerA) (hY : ∀ (w : World) (h : Heap), YP w h → (K w.params).In h)
    (fc : ∀ (w : World) (mg : Str → Option Value) (h : Heap), (K w.params).In h → h.Ns mainGlobals mg → Facts T (K w.params) mg) (say : Says T k i n) : PySem.W.WalkO q loose XP YP l.row.toRowW d [] (fun f vs => PySem.call f vs) := by
  refine Att.attach_call hn hdf fun w s₀ s₁ mg mb fa o pm cd doc a vs ns G Y ho hd hcd hmg hobj hints hlen hg => ?_
  have KX := hY w _ Y
  have fc := fc w mg _ KX G.T.g
  obtain ⟨f, fd, at1⟩ := fc.fns i F hF
  have ef : f = fa := by
    have := at1.mg
    rw [hname, hmg] at this
    cases this; rfl
  subst ef
  exact law_g tk fc hF at1 hps KX G.T.g G.T.b G.T.builtins G.T.nolimit hg hobj hints (Nat.le_trans hlen hn2) hr (say ns hlen)
end Z
set_option maxHeartbeats 1000000
/-! ZD: a law's facts put together. -/
namespace Z
open PySem PySem.Spec PyProof.Rows L2
structure FnT (T : Tbl) (F : Fn) : Prop where
  sc : L2.FnScope F.N F.ps (L2.defScope F.st)
  tr : (L2.defBody F.st).map (trS T F.N 60 (L2.defScope F.st)) = F.body
def AllT (T : Tbl) : List Fn → Prop
  | [] => True
  | F :: r => FnT T F ∧ AllT T r
theorem allT_get {T : Tbl} : ∀ {l : List Fn} {i : Nat} {F : Fn}, AllT T l → l[i]? = some F → FnT T F
  | [], _, _, _, e => by simp at e
  | G :: r, 0, F, h, e => by simp at e; exact e ▸ h.1
  | G :: r, i + 1, F, h, e => allT_get h.2 (by simpa using e)
theorem tok_of {T : Tbl} (h : AllT T T.fns) : TOk T := fun i F e => ⟨(allT_get h e).sc, 60, (allT_get h e).tr⟩
/-- a def of the table, in the written part -/
structure FnK (K : Frag) (F : Fn) : Prop where
  ex : ∃ (f : Addr) (fd : FuncData), PySem.W.nsIn K mainGlobals F.name = some (some (.ref f)) ∧ L2.Fun K F.name F.name F.st f fd ∧ L2.Binds K fd F.ps []
theorem fnK {K : Frag} {x : Str} {N ps : List Str} {st : Stmt} {body : List S} {f : Addr} {oc : Value} {od an : Option Addr} {osl : Array (Option Value)} {kV doc pm cdv ct : Value} (a : PySem.W.nsIn K mainGlobals x = some (some (.ref f)))
    (l : K.lookup f = some ⟨oc, od, .func (PySem.W.fnOf x x (L2.defArgs st) (L2.defBody st) (L2.defScope st) .none kV doc pm an cdv ct), osl⟩) (c : PySem.W.codeIn K cdv x = true) (k : PySem.W.keepIn K (.ref f) = true)
    (b : ∀ (kV doc pm : Value) (an : Option Addr) (cdv ct : Value) (us : List Value), us.length = ps.length → bindArgs (PySem.W.fnOf x x (L2.defArgs st) (L2.defBody st) (L2.defScope st) .none kV doc pm an cdv ct) ⟨us, []⟩ = pure (ps.zip us)) : FnK K ⟨x, N, ps, st, body⟩ :=
  ⟨f, _, a, L2.fun_mk l c k, (L2.fun_mk l c k).binds b⟩
def AllK (K : Frag) : List Fn → Prop
  | [] => True
  | F :: r => FnK K F ∧ AllK K r
theorem allK_get {K : Frag} : ∀ {l : List Fn} {i : Nat} {F : Fn}, AllK K l → l[i]? = some F → FnK K F
  | [], _, _, _, e => by simp at e
  | G :: r, 0, F, h, e => by simp at e; exact e ▸ h.1
  | G :: r, i + 1, F, h, e => allK_get h.2 (by simpa using e)
structure CoK (K : Frag) (x : Str) (d : D) : Prop where
  ex : ∃ (v : Value) (u : L2.V), PySem.W.nsIn K mainGlobals x = some (some v) ∧ L2.RelV u v ∧ scalV d u
theorem coK_int {K : Frag} {x : Str} {i : Int} {t : Tok} (h : PySem.W.nsIn K mainGlobals x = some (some (.int i t))) : CoK K x (.int i) := ⟨_, .int i, h, ⟨t, rfl⟩, rfl⟩
theorem coK_str {K : Frag} {x y : Str} {t : Tok} (h : PySem.W.nsIn K mainGlobals x = some (some (.str y t))) : CoK K x (.str y) := ⟨_, .str y, h, ⟨t, rfl⟩, rfl⟩
def AllC (K : Frag) : List (Str × D) → Prop
  | [] => True
  | c :: r => CoK K c.1 c.2 ∧ AllC K r
theorem allC_get {K : Frag} : ∀ {l : List (Str × D)} {x : Str} {d : D}, AllC K l → l.lookup x = some d → CoK K x d
  | [], _, _, _, e => by simp at e
  | (y, d') :: r, x, d, h, e => by
    rw [List.lookup_cons] at e
    cases hx : x == y with
    | true => rw [hx] at e; cases e; rw [eq_of_beq hx]; exact h.1
    | false => rw [hx] at e; exact allC_get h.2 e
def AllB (K : Frag) : List Str → Prop
  | [] => True
  | x :: r => PySem.W.nsIn K mainGlobals x = some none ∧ AllB K r
theorem allB_get {K : Frag} : ∀ {l : List Str} {x : Str}, AllB K l → x ∈ l → PySem.W.nsIn K mainGlobals x = some none
  | y :: r, x, h, m => by
    rcases List.mem_cons.mp m with rfl | m
    · exact h.1
    · exact allB_get h.2 m
theorem facts_of {T : Tbl} {K : Frag} (h1 : AllK K T.fns) (h2 : AllC K T.consts) (h3 : AllB K bltNames) {h : Heap} {mg : Str → Option Value} (X : K.In h) (G : h.Ns mainGlobals mg) : Facts T K mg :=
  ⟨fun i F e => by
    obtain ⟨f, fd, a, b, c⟩ := (allK_get h1 e).ex
    exact ⟨f, fd, PySem.W.mg_of X G a, b, c⟩,
  fun x d e => by
    obtain ⟨v, u, a, b, c⟩ := (allC_get h2 e).ex
    exact ⟨v, u, PySem.W.mg_of X G a, b, c⟩,
  fun x hx => PySem.W.mg_none_of X G (allB_get h3 hx)⟩
theorem walk_z {T : Tbl} {l : PySem.W.OpenLaw} {k i : Nat} {q : Program} {loose : List Str} {XP : (Str → Option Value) → Heap → Prop} {YP : World → Heap → Prop} {d : DefRec} {K : Params → Frag} {x : Str} {F : Fn} (tk : AllT T T.fns) (hF : T.fns[i]? = some F) (hps : F.ps = [x]) (hname : F.name = d.name)
    (hn : l.most = some 63) (hdf : d.params.defaults = []) (hr : L2.Room k callerA) (hY : ∀ (w : World) (h : Heap), YP w h → (K w.params).In h)
    (say : Says T k i 63) (fc : ∀ p : Params, AllK (K p) T.fns ∧ AllC (K p) T.consts ∧ AllB (K p) bltNames) : PySem.W.WalkO q loose XP YP l.row.toRowW d [] (fun f vs => PySem.call f vs) :=
  walk_g (tok_of tk) hF hps hname hn (by decide) hdf hr hY (fun w mg h X G => facts_of (fc _).1 (fc _).2.1 (fc _).2.2 X G) say
end Z
/-! M1: scopes in preorder, plain. -/
namespace Mp
/-- from a scope outward, by the parents' list -/
def out (ps : List Int) (s : Nat) : List Nat := s :: match ps[s]? with
  | some (.ofNat p) => if h : p < s then out ps p else []
  | _ => []
termination_by s
theorem out_root {ps : List Int} {s : Nat} (h : ps[s]? = some (-1)) : out ps s = [s] := by
  rw [out, h]; rfl
theorem out_step {ps : List Int} {s p : Nat} (h : ps[s]? = some (p : Int)) (hp : p < s) : out ps s = s :: out ps p := by
  rw [out, h]
  show s :: (if h : p < s then out ps p else []) = _
  rw [dif_pos hp]
theorem out_le {ps : List Int} : ∀ (s x : Nat), x ∈ out ps s → x ≤ s := fun s => by
  induction s using Nat.strongRecOn with
  | ind s ih =>
    intro x hx
    rw [out] at hx
    rcases List.mem_cons.mp hx with rfl | hx
    · exact Nat.le_refl _
    · split at hx
      · split at hx
        · rename_i p _ hp
          have := ih p hp x hx
          omega
        · cases hx
      · cases hx
theorem out_self {ps : List Int} {s : Nat} : s ∈ out ps s := by rw [out]; exact List.mem_cons_self
theorem out_app {ps qs : List Int} : ∀ (s : Nat), s < ps.length → out (ps ++ qs) s = out ps s := fun s => by
  induction s using Nat.strongRecOn with
  | ind s ih =>
    intro hs
    rw [out, out, List.getElem?_append_left hs]
    congr 1
    split
    · rename_i p _
      split
      · rename_i hp
        exact ih p hp (by omega)
      · rfl
    · rfl
/-- parents in preorder -/
structure Pre (ps : List Int) : Prop where
  root : ps[0]? = some (-1)
  par : ∀ i, 0 < i → i < ps.length → ∃ p : Nat, ps[i]? = some (p : Int) ∧ p ∈ out ps (i - 1)
theorem Pre.lt {ps : List Int} (h : Pre ps) {i p : Nat} (hi : 0 < i) (e : ps[i]? = some (p : Int)) : p < i := by
  obtain ⟨q, e1, e2⟩ := h.par i hi (List.getElem?_eq_some_iff.mp e).1
  rw [e] at e1
  have : (p : Int) = q := Option.some.inj e1
  have := out_le _ _ e2
  omega
theorem Pre.len {ps : List Int} (h : Pre ps) : 0 < ps.length := (List.getElem?_eq_some_iff.mp h.root).1
theorem Pre.one : Pre [-1] := ⟨rfl, fun i h1 h2 => by simp at h2; omega⟩
theorem Pre.snoc {ps : List Int} (h : Pre ps) {p : Nat} (hp : p ∈ out ps (ps.length - 1)) : Pre (ps ++ [(p : Int)]) := by
  have hl := h.len
  refine ⟨by rw [List.getElem?_append_left hl]; exact h.root, fun i h1 h2 => ?_⟩
  by_cases hi : i < ps.length
  · obtain ⟨q, e1, e2⟩ := h.par i h1 hi
    exact ⟨q, by rw [List.getElem?_append_left hi]; exact e1, by rw [out_app _ (by omega)]; exact e2⟩
  · have e : i = ps.length := by simp at h2; omega
    subst e
    exact ⟨p, by rw [List.getElem?_append_right (Nat.le_refl _), Nat.sub_self]; rfl, by rw [out_app _ (by omega)]; exact hp⟩
/-- each scope's parent: none or a smaller one -/
theorem Pre.cases {ps : List Int} (h : Pre ps) {i : Nat} (hi : i < ps.length) : (i = 0 ∧ ps[i]? = some (-1) ∧ out ps i = [i]) ∨ (0 < i ∧ ∃ p : Nat, ps[i]? = some (p : Int) ∧ p < i ∧ p ∈ out ps (i - 1) ∧ out ps i = i :: out ps p) := by
  by_cases h0 : i = 0
  · subst h0; exact .inl ⟨rfl, h.root, out_root h.root⟩
  · obtain ⟨p, e1, e2⟩ := h.par i (by omega) hi
    have hp := h.lt (by omega) e1
    exact .inr ⟨by omega, p, e1, hp, e2, out_step e1 hp⟩
/-- depth -/
def dep (ps : List Int) (s : Nat) : Nat := (out ps s).length - 1
theorem out_len {ps : List Int} {s : Nat} : (out ps s).length = dep ps s + 1 := by
  unfold dep
  have : 0 < (out ps s).length := List.length_pos_of_mem out_self
  omega
/-- ancestors' ancestors -/
theorem Pre.trans {ps : List Int} (h : Pre ps) : ∀ (s : Nat), s < ps.length → ∀ a b, a ∈ out ps s → b ∈ out ps a → b ∈ out ps s := fun s => by
  induction s using Nat.strongRecOn with
  | ind s ih =>
    intro hs a b ha hb
    rcases h.cases hs with ⟨rfl, _, e⟩ | ⟨_, p, _, hp, _, e⟩
    · rw [e] at ha
      rw [List.mem_singleton.mp ha] at hb
      exact hb
    · rw [e] at ha
      rcases List.mem_cons.mp ha with rfl | ha
      · exact hb
      · rw [e]; exact List.mem_cons_of_mem _ (ih p hp (by omega) a b ha hb)
/-- two on one way: one lies outside of the other -/
theorem Pre.chain {ps : List Int} (h : Pre ps) : ∀ (s : Nat), s < ps.length → ∀ a b, a ∈ out ps s → b ∈ out ps s → a ≤ b → a ∈ out ps b := fun s => by
  induction s using Nat.strongRecOn with
  | ind s ih =>
    intro hs a b ha hb hab
    rcases h.cases hs with ⟨rfl, _, e⟩ | ⟨_, p, _, hp, _, e⟩
    · rw [e] at ha hb
      rw [List.mem_singleton.mp ha, List.mem_singleton.mp hb]
      exact out_self
    · have ha' := ha
      rw [e] at ha hb
      rcases List.mem_cons.mp hb with hb2 | hb2
      · rw [hb2]; exact ha'
      · rcases List.mem_cons.mp ha with ha2 | ha2
        · have := out_le _ _ hb2; omega
        · exact ih p hp (by omega) a b ha2 hb2 hab
/-- what lies inside a scope follows it without a gap -/
theorem Pre.span {ps : List Int} (h : Pre ps) {s i j : Nat} (hi : i < ps.length) (h1 : s ≤ j) (h2 : j ≤ i) (hs : s ∈ out ps i) : s ∈ out ps j := by
  induction i with
  | zero =>
    have : j = 0 := by omega
    subst this; exact hs
  | succ i ih =>
    by_cases hj : j = i + 1
    · subst hj; exact hs
    · have hsi : s ≠ i + 1 := by omega
      rcases h.cases hi with ⟨h0, _, e⟩ | ⟨_, p, _, hp, hpm, e⟩
      · omega
      · rw [e] at hs
        rcases List.mem_cons.mp hs with hs | hs
        · exact absurd hs hsi
        · exact ih (by omega) (by omega) (h.trans i (by omega) p s hpm hs)
end Mp
namespace Mp
theorem out_length {ps : List Int} {s : Nat} : (out ps s).length ≤ s + 1 := by
  induction s using Nat.strongRecOn with
  | ind s ih =>
    rw [out]
    split
    · split
      · rename_i p _ hp
        have := ih p hp
        simp only [List.length_cons]
        omega
      · simp
    · simp
end Mp
namespace Mp
/-- the scope of a declaration, by the counts -/
def home : List Nat → Nat → Nat
  | [], _ => 0
  | c :: r, d => if d < c then 0 else home r (d - c) + 1
theorem home_lt : ∀ {cs : List Nat} {d : Nat}, d < cs.sum → home cs d < cs.length
  | [], d, h => by simp at h
  | c :: r, d, h => by
    unfold home
    split
    · simp
    · have := home_lt (cs := r) (d := d - c) (by simp at h; omega)
      simp; omega
end Mp
/-! M2: depths, spans, declarations by scope, plain. -/
namespace Mp
theorem Pre.suffix {ps : List Int} (h : Pre ps) : ∀ (b : Nat), b < ps.length → ∀ a, a ∈ out ps b → out ps a <:+ out ps b := fun b => by
  induction b using Nat.strongRecOn with
  | ind b ih =>
    intro hb a ha
    rcases h.cases hb with ⟨rfl, _, e⟩ | ⟨_, p, _, hp, _, e⟩
    · rw [e] at ha
      rw [List.mem_singleton.mp ha]
      exact List.suffix_refl _
    · have ha' := ha
      rw [e] at ha'
      rcases List.mem_cons.mp ha' with rfl | ha2
      · exact List.suffix_refl _
      · rw [e]
        exact (ih p hp (by omega) a ha2).trans (List.suffix_cons _ _)
theorem Pre.dep_lt {ps : List Int} (h : Pre ps) {a b : Nat} (hb : b < ps.length) (ha : a ∈ out ps b) (hne : a ≠ b) : dep ps a < dep ps b := by
  rcases h.cases hb with ⟨rfl, _, e⟩ | ⟨_, p, _, hp, _, e⟩
  · rw [e] at ha; exact absurd (List.mem_singleton.mp ha) hne
  · have ha' := ha
    rw [e] at ha'
    rcases List.mem_cons.mp ha' with e1 | ha2
    · exact absurd e1 hne
    · have h1 := (h.suffix p (by omega) a ha2).length_le
      have h2 : (out ps b).length = (out ps p).length + 1 := by rw [e]; rfl
      rw [out_len] at h1 h2
      rw [out_len] at h1 h2
      omega
theorem Pre.dep_par {ps : List Int} (h : Pre ps) {i p : Nat} (hi : 0 < i) (e : ps[i]? = some (p : Int)) : dep ps i = dep ps p + 1 := by
  have hp := h.lt hi e
  have h2 : (out ps i).length = (out ps p).length + 1 := by rw [out_step e hp]; rfl
  rw [out_len, out_len] at h2
  omega
theorem dep_root {ps : List Int} {i : Nat} (e : ps[i]? = some (-1)) : dep ps i = 0 := by
  unfold dep
  rw [out_root e]; rfl
/-- as long as it stays deeper, it lies inside -/
theorem Pre.inside {ps : List Int} (h : Pre ps) {s : Nat} : ∀ (i : Nat), i < ps.length → s ≤ i → (∀ j, s < j → j ≤ i → dep ps s < dep ps j) → s ∈ out ps i
  | 0, _, hs, _ => by
    have : s = 0 := by omega
    subst this; exact out_self
  | i + 1, hi, hs, hd => by
    by_cases e : s = i + 1
    · subst e; exact out_self
    · have ih := Pre.inside h i (by omega) (by omega) fun j h1 h2 => hd j h1 (by omega)
      rcases h.cases hi with ⟨h0, _, _⟩ | ⟨_, p, ep, hp, hpm, eo⟩
      · omega
      · rw [eo]
        refine List.mem_cons_of_mem _ ?_
        by_cases hps : s ≤ p
        · exact h.chain i (by omega) s p ih hpm hps
        · have h1 : p ∈ out ps s := h.chain i (by omega) p s hpm ih (by omega)
          have h2 := h.dep_lt (by omega) h1 (by omega)
          have h3 := hd (i + 1) (by omega) (Nat.le_refl _)
          have h4 := h.dep_par (by omega) ep
          omega
/-- where it ends, it ends for good -/
theorem Pre.beyond {ps : List Int} (h : Pre ps) {s e i : Nat} (h1 : s < e) (h2 : e ≤ i) (hi : i < ps.length) (hd : dep ps e ≤ dep ps s) : s ∉ out ps i := fun hs => by
  have h3 := h.span hi (by omega) h2 hs
  have h4 := h.dep_lt (by omega) h3 (by omega)
  omega
/-- the scopes inside s, by their span -/
theorem Pre.inner {ps : List Int} (h : Pre ps) {s e : Nat} (hs : s < ps.length) (h1 : s < e) (h2 : e ≤ ps.length) (hin : ∀ j, s < j → j < e → dep ps s < dep ps j) (hout : e < ps.length → dep ps e ≤ dep ps s) :
    (List.range ps.length).filter (fun i => decide (s ∈ out ps i)) = List.range' s (e - s) := by
  have a : List.range ps.length = List.range s ++ (List.range' s (e - s) ++ List.range' e (ps.length - e)) := by
    rw [List.range_eq_range', List.range_eq_range', show ps.length = s + ((e - s) + (ps.length - e)) by omega]
    rw [← List.range'_append_1, Nat.zero_add, ← List.range'_append_1]
    congr 3
    · omega
    · omega
  rw [a, List.filter_append, List.filter_append]
  have f1 : (List.range s).filter (fun i => decide (s ∈ out ps i)) = [] := by
    rw [List.filter_eq_nil_iff]
    intro i hi
    have hi := List.mem_range.mp hi
    simp only [decide_eq_true_eq]
    intro hm
    have := out_le _ _ hm
    omega
  have f2 : (List.range' s (e - s)).filter (fun i => decide (s ∈ out ps i)) = List.range' s (e - s) := by
    rw [List.filter_eq_self]
    intro i hi
    have hi := List.mem_range'_1.mp hi
    simp only [decide_eq_true_eq]
    exact h.inside i (by omega) (by omega) fun j j1 j2 => hin j j1 (by omega)
  have f3 : (List.range' e (ps.length - e)).filter (fun i => decide (s ∈ out ps i)) = [] := by
    rw [List.filter_eq_nil_iff]
    intro i hi
    have hi := List.mem_range'_1.mp hi
    simp only [decide_eq_true_eq]
    exact h.beyond h1 (by omega) (by omega) (hout (by omega))
  rw [f1, f2, f3, List.nil_append, List.append_nil]
/-- the homes of all declarations -/
def homesF : Nat → List Nat → List Nat
  | _, [] => []
  | i, c :: r => List.replicate c i ++ homesF (i + 1) r
theorem homesF_len : ∀ (i : Nat) (cs : List Nat), (homesF i cs).length = cs.sum
  | _, [] => rfl
  | i, c :: r => by rw [homesF, List.length_append, List.length_replicate, homesF_len, List.sum_cons]
theorem homesF_get : ∀ (i : Nat) (cs : List Nat) (d : Nat), d < cs.sum → (homesF i cs)[d]? = some (i + home cs d)
  | _, [], d, h => by simp at h
  | i, c :: r, d, h => by
    rw [homesF, home]
    by_cases hd : d < c
    · rw [if_pos hd, List.getElem?_append_left (by simpa using hd), List.getElem?_replicate_of_lt hd]; rfl
    · rw [if_neg hd, List.getElem?_append_right (by simpa using hd), List.length_replicate, homesF_get (i + 1) r (d - c) (by simp at h; omega)]
      congr 1
      omega
theorem homesF_snoc : ∀ (i : Nat) (cs : List Nat) (c : Nat), homesF i (cs ++ [c]) = homesF i cs ++ List.replicate c (i + cs.length)
  | i, [], c => by simp [homesF]
  | i, b :: r, c => by
    rw [List.cons_append, homesF, homesF, homesF_snoc, List.append_assoc, List.length_cons]
    congr 3
    omega
/-- the declarations of a scope stand together -/
theorem home_iff : ∀ (cs : List Nat) (s d : Nat), d < cs.sum → (home cs d = s ↔ (cs.take s).sum ≤ d ∧ d < (cs.take (s + 1)).sum)
  | [], s, d, h => by simp at h
  | c :: r, s, d, h => by
    rw [home]
    by_cases hd : d < c
    · rw [if_pos hd]
      cases s with
      | zero => simp; omega
      | succ s => simp; omega
    · rw [if_neg hd]
      cases s with
      | zero => simp; omega
      | succ s =>
        have ih := home_iff r s (d - c) (by simp at h; omega)
        simp only [Nat.add_right_cancel_iff, List.take_succ_cons, List.sum_cons]
        rw [ih]
        omega
theorem take_sum_le (cs : List Nat) : ∀ s, (cs.take s).sum ≤ (cs.take (s + 1)).sum := fun s => by
  induction cs generalizing s with
  | nil => simp
  | cons c r ih =>
    cases s with
    | zero => simp
    | succ s => simp only [List.take_succ_cons, List.sum_cons]; have := ih s; omega
theorem take_sum_all (cs : List Nat) : ∀ s, (cs.take s).sum ≤ cs.sum := fun s => by
  induction cs generalizing s with
  | nil => simp
  | cons c r ih =>
    cases s with
    | zero => simp
    | succ s => simp only [List.take_succ_cons, List.sum_cons]; have := ih s; omega
theorem take_sum_succ {cs : List Nat} {s : Nat} (h : s < cs.length) : (cs.take (s + 1)).sum = (cs.take s).sum + cs[s] := by
  induction cs generalizing s with
  | nil => simp at h
  | cons c r ih =>
    cases s with
    | zero => simp
    | succ s =>
      have := ih (s := s) (by simpa using h)
      simp only [List.take_succ_cons, List.sum_cons, List.getElem_cons_succ] at this ⊢
      omega
theorem decls {cs : List Nat} {s : Nat} (hs : s < cs.length) : (List.range cs.sum).filter (fun d => decide (home cs d = s)) = List.range' (cs.take s).sum cs[s] := by
  have t1 := take_sum_succ hs
  have t2 := take_sum_all cs (s + 1)
  have a : List.range cs.sum = List.range (cs.take s).sum ++ (List.range' (cs.take s).sum cs[s] ++ List.range' (cs.take (s + 1)).sum (cs.sum - (cs.take (s + 1)).sum)) := by
    rw [List.range_eq_range', List.range_eq_range', show cs.sum = (cs.take s).sum + (cs[s] + (cs.sum - (cs.take (s + 1)).sum)) by omega]
    rw [← List.range'_append_1, Nat.zero_add, ← List.range'_append_1]
    congr 3
    · omega
    · omega
  rw [a, List.filter_append, List.filter_append]
  have f1 : (List.range (cs.take s).sum).filter (fun d => decide (home cs d = s)) = [] := by
    rw [List.filter_eq_nil_iff]
    intro i hi
    have hi := List.mem_range.mp hi
    simp only [decide_eq_true_eq, home_iff cs s i (by omega)]
    omega
  have f2 : (List.range' (cs.take s).sum cs[s]).filter (fun d => decide (home cs d = s)) = List.range' (cs.take s).sum cs[s] := by
    rw [List.filter_eq_self]
    intro i hi
    have hi := List.mem_range'_1.mp hi
    simp only [decide_eq_true_eq, home_iff cs s i (by omega)]
    omega
  have f3 : (List.range' (cs.take (s + 1)).sum (cs.sum - (cs.take (s + 1)).sum)).filter (fun d => decide (home cs d = s)) = [] := by
    rw [List.filter_eq_nil_iff]
    intro i hi
    have hi := List.mem_range'_1.mp hi
    simp only [decide_eq_true_eq, home_iff cs s i (by omega)]
    omega
  rw [f1, f2, f3, List.nil_append, List.append_nil]
end Mp
set_option maxHeartbeats 1000000
/-! ZW: what is wanted of the interpreter's answers. -/
namespace Z
open PySem
section
variable (T : Tbl) (k : Nat)
def wE (m : M) (ρ : Lo) (h : Hq) (Q : D → Hq → Prop) : Prop := ∃ d h', ev T (.ex k m ρ h) = some (.val d h') ∧ Q d h'
def wEs (ms : List M) (ρ : Lo) (h : Hq) (Q : List D → Hq → Prop) : Prop := ∃ d h', ev T (.exs k ms ρ h) = some (.vals d h') ∧ Q d h'
def wT (m : M) (ρ : Lo) (h : Hq) (Q : Bool → Hq → Prop) : Prop := ∃ d h', ev T (.ts k m ρ h) = some (.tst d h') ∧ Q d h'
def wI (i : I) (ρ : Lo) (h : Hq) (Q : It → Hq → Prop) : Prop := ∃ d h', ev T (.it k i ρ h) = some (.itr d h') ∧ Q d h'
def wA (t : Z.T) (d : D) (ρ : Lo) (h : Hq) (Q : Lo → Hq → Prop) : Prop := ∃ ρ' h', ev T (.as k t d ρ h) = some (.nx ρ' h') ∧ Q ρ' h'
def wAs (t : List Z.T) (d : List D) (ρ : Lo) (h : Hq) (Q : Lo → Hq → Prop) : Prop := ∃ ρ' h', ev T (.ass k t d ρ h) = some (.nx ρ' h') ∧ Q ρ' h'
def wS (s : S) (ρ : Lo) (h : Hq) (Q : R → Prop) : Prop := ∃ r, ev T (.st k s ρ h) = some r ∧ Q r
def wB (s : List S) (ρ : Lo) (h : Hq) (Q : R → Prop) : Prop := ∃ r, ev T (.sts k s ρ h) = some r ∧ Q r
def wF (it : It) (i : Nat) (t : Z.T) (b : List S) (ρ : Lo) (h : Hq) (Q : R → Prop) : Prop := ∃ r, ev T (.forL k it i t b ρ h) = some r ∧ Q r
def wW (t : M) (b : List S) (ρ : Lo) (h : Hq) (Q : R → Prop) : Prop := ∃ r, ev T (.whL k t b ρ h) = some r ∧ Q r
def wL (it : It) (i : Nat) (t : Z.T) (ifs : Option M) (elt : M) (own : List Nat) (n : Nat) (ρ : Lo) (h : Hq) (Q : D → Hq → Prop) : Prop := ∃ d h', ev T (.lcL k it i t ifs elt own n ρ h) = some (.val d h') ∧ Q d h'
def wC (f : Nat) (ds : List D) (h : Hq) (Q : D → Hq → Prop) : Prop := ∃ d h', ev T (.call k f ds h) = some (.val d h') ∧ Q d h'
end
/-- an answer there is -/
def ok {α : Type} (o : Option α) (Q : α → Prop) : Prop := ∃ x, o = some x ∧ Q x
/-- .. an answer and a heap -/
def okP (o : Option (D × Hq)) (Q : D → Hq → Prop) : Prop := ∃ d h', o = some (d, h') ∧ Q d h'
theorem okP_in {o : Option (D × Hq)} {d : D} {h' : Hq} {Q : D → Hq → Prop} (e : o = some (d, h')) (q : Q d h') : okP o Q := ⟨d, h', e, q⟩
theorem ok_some {α : Type} {x : α} {Q : α → Prop} : ok (some x) Q = Q x := propext ⟨fun ⟨_, e, q⟩ => by cases e; exact q, fun q => ⟨_, rfl, q⟩⟩
theorem ok_none {α : Type} {Q : α → Prop} : ok none Q = False := propext ⟨fun ⟨_, e, _⟩ => (nomatch e), False.elim⟩
theorem ok_map {α β : Type} {f : α → β} {o : Option α} {Q : β → Prop} : ok (o.map f) Q = ok o fun x => Q (f x) := by
  cases o with
  | none => simp only [Option.map_none, ok_none]
  | some x => simp only [Option.map_some, ok_some]
theorem ok_bind {α β : Type} {f : α → Option β} {o : Option α} {Q : β → Prop} : ok (o.bind f) Q = ok o fun x => ok (f x) Q := by
  cases o with
  | none => simp only [Option.bind_none, ok_none]
  | some x => simp only [Option.bind_some, ok_some]
theorem ok_if {α : Type} {c : Prop} [Decidable c] {o : Option α} {Q : α → Prop} : ok (if c then o else none) Q = (c ∧ ok o Q) := by
  by_cases h : c
  · rw [if_pos h]; simp only [h, true_and]
  · rw [if_neg h]; simp only [h, ok_none, false_and]
theorem ok_in {α : Type} {o : Option α} {x : α} {Q : α → Prop} (e : o = some x) (q : Q x) : ok o Q := ⟨x, e, q⟩
theorem ok_ite {α : Type} {c : Prop} [Decidable c] {o : Option α} {Q : α → Prop} (hc : c) (q : ok o Q) : ok (if c then o else none) Q := by rw [if_pos hc]; exact q
theorem ok_mono {α : Type} {o : Option α} {P Q : α → Prop} (h : ok o P) (q : ∀ x, P x → Q x) : ok o Q := let ⟨x, e, p⟩ := h; ⟨x, e, q x p⟩
structure OkBin (o : Op) (x y : D) (h : Hq) (Q : D → Hq → Prop) : Prop where
  get : okP (binop o x y h) Q
structure OkCmp (o : Cp) (x y : D) (h : Hq) (Q : Bool → Prop) : Prop where
  get : ok (cmpop o x y h) Q
structure OkIx (x y : D) (h : Hq) (Q : D → Prop) : Prop where
  get : ok (ixD x y h) Q
structure OkSl (x : D) (a b : Option Int) (h : Hq) (Q : D → Hq → Prop) : Prop where
  get : okP (slD x a b h) Q
structure OkBi (b : Bi) (x : List D) (h : Hq) (Q : D → Hq → Prop) : Prop where
  get : okP (biD b x h) Q
structure OkIsi (x : D) (t : Ty) (h : Hq) (Q : Bool → Prop) : Prop where
  get : ok (isiD x t h) Q
structure OkMt (m : Mt) (x : D) (y : List D) (h : Hq) (Q : D → Hq → Prop) : Prop where
  get : okP (mtD m x y h) Q
structure OkRng (b : Bi) (x : List D) (h : Hq) (Q : D → Hq → Prop) : Prop where
  get : okP (rngD b x h) Q
structure OkSet (x y d : D) (h : Hq) (Q : Hq → Prop) : Prop where
  get : ok (setD x y d h) Q
structure OkRange (x : List D) (Q : List D → Prop) : Prop where
  get : ok (rangeD x) Q
structure OkIt (x : D) (h : Hq) (Q : It → Prop) : Prop where
  get : ok (itD x h) Q
structure OkTr (x : D) (h : Hq) (Q : Bool → Prop) : Prop where
  get : ok (truth x h) Q
structure OkBl (x : D) (Q : Bool → Prop) : Prop where
  get : ok (bl? x) Q
structure OkNum (x : D) (Q : Int → Prop) : Prop where
  get : ok (int? x) Q
/-- behind a bool -/
def ifB (c : Bool) (A B : Prop) : Prop := (c = true → A) ∧ (c = false → B)
theorem ifB_true {A B : Prop} : ifB true A B = A := propext ⟨fun h => h.1 rfl, fun h => ⟨fun _ => h, fun e => (nomatch e)⟩⟩
theorem ifB_false {A B : Prop} : ifB false A B = B := propext ⟨fun h => h.2 rfl, fun h => ⟨fun e => (nomatch e), fun _ => h⟩⟩
theorem ifB_dec {p : Prop} [Decidable p] {A B : Prop} : ifB (decide p) A B = ((p → A) ∧ (¬ p → B)) := by unfold ifB; simp only [decide_eq_true_eq, decide_eq_false_iff_not]
theorem ifB_not {b : Bool} {A B : Prop} : ifB (!b) A B = ifB b B A := by cases b <;> simp only [Bool.not_true, Bool.not_false, ifB_true, ifB_false]
/-- behind a statement -/
def onR (Q : R → Prop) (f : Lo → Hq → Prop) : R → Prop
  | .nx ρ h => f ρ h
  | .brk ρ h => Q (.brk ρ h)
  | .cont ρ h => Q (.cont ρ h)
  | .ret d h => Q (.ret d h)
  | _ => False
theorem onR_nx {Q : R → Prop} {f : Lo → Hq → Prop} {ρ : Lo} {h : Hq} (q : f ρ h) : onR Q f (.nx ρ h) := q
theorem onR_brk {Q : R → Prop} {f : Lo → Hq → Prop} {ρ : Lo} {h : Hq} (q : Q (.brk ρ h)) : onR Q f (.brk ρ h) := q
theorem onR_cont {Q : R → Prop} {f : Lo → Hq → Prop} {ρ : Lo} {h : Hq} (q : Q (.cont ρ h)) : onR Q f (.cont ρ h) := q
theorem onR_ret {Q : R → Prop} {f : Lo → Hq → Prop} {d : D} {h : Hq} (q : Q (.ret d h)) : onR Q f (.ret d h) := q
/-- behind a loop's body -/
def onL (Q : R → Prop) (f : Lo → Hq → Prop) : R → Prop
  | .nx ρ h => f ρ h
  | .brk ρ h => Q (.nx ρ h)
  | .cont ρ h => f ρ h
  | .ret d h => Q (.ret d h)
  | _ => False
theorem onL_nx {Q : R → Prop} {f : Lo → Hq → Prop} {ρ : Lo} {h : Hq} (q : f ρ h) : onL Q f (.nx ρ h) := q
theorem onL_brk {Q : R → Prop} {f : Lo → Hq → Prop} {ρ : Lo} {h : Hq} (q : Q (.nx ρ h)) : onL Q f (.brk ρ h) := q
theorem onL_cont {Q : R → Prop} {f : Lo → Hq → Prop} {ρ : Lo} {h : Hq} (q : f ρ h) : onL Q f (.cont ρ h) := q
theorem onL_ret {Q : R → Prop} {f : Lo → Hq → Prop} {d : D} {h : Hq} (q : Q (.ret d h)) : onL Q f (.ret d h) := q
/-- behind a def's body -/
def onC (Q : D → Hq → Prop) : R → Prop
  | .nx _ h => Q .non h
  | .ret d h => Q d h
  | _ => False
theorem onC_nx {Q : D → Hq → Prop} {ρ : Lo} {h : Hq} (q : Q .non h) : onC Q (.nx ρ h) := q
theorem onC_ret {Q : D → Hq → Prop} {d : D} {h : Hq} (q : Q d h) : onC Q (.ret d h) := q
section
variable {T : Tbl} {k : Nat} {ρ : Lo} {h : Hq}
theorem onV_eq {a : Option R} {f : D → Hq → Option R} {d : D} {w : Hq} (e : a = some (.val d w)) : onV a f = f d w := by rw [e]; rfl
theorem onVs_eq {a : Option R} {f : List D → Hq → Option R} {d : List D} {w : Hq} (e : a = some (.vals d w)) : onVs a f = f d w := by rw [e]; rfl
theorem onB_eq {a : Option R} {f : Bool → Hq → Option R} {d : Bool} {w : Hq} (e : a = some (.tst d w)) : onB a f = f d w := by rw [e]; rfl
theorem onI_eq {a : Option R} {f : It → Hq → Option R} {d : It} {w : Hq} (e : a = some (.itr d w)) : onI a f = f d w := by rw [e]; rfl
theorem onN_eq {a : Option R} {f : Lo → Hq → Option R} {d : Lo} {w : Hq} (e : a = some (.nx d w)) : onN a f = f d w := by rw [e]; rfl
theorem ev_of {j : J} {r : Option R} (e : step T (ev T) j = r) : ev T j = r := by rw [ev_eq]; exact e
/-! ### expressions; these are implications, from the parts to the whole -/
theorem wE_cst {d : D} {Q : D → Hq → Prop} (q : Q d h) : wE T k (.cst d) ρ h Q := ⟨_, _, ev_of rfl, q⟩
theorem wE_var {i : Nat} {d : D} {Q : D → Hq → Prop} (e : ρ[i]? = some (some d)) (q : Q d h) : wE T k (.var i) ρ h Q := ⟨d, h, ev_of (by show (match ρ[i]? with | some (some d) => some (R.val d h) | _ => none) = _; rw [e]), q⟩
theorem wE_glb {x : Str} {d : D} {Q : D → Hq → Prop} (e : T.consts.lookup x = some d) (q : Q d h) : wE T k (.glb x) ρ h Q := ⟨d, h, ev_of (by show (T.consts.lookup x).map _ = _; rw [e]; rfl), q⟩
theorem wE_tup {es : List M} {Q : D → Hq → Prop} (q : wEs T k es ρ h fun ds h1 => ds.length ≤ line ∧ Q (.tup ds) h1) : wE T k (.tup es) ρ h Q := by
  obtain ⟨ds, h1, e, hl, q⟩ := q
  exact ⟨_, _, ev_of ((onVs_eq e).trans (if_pos hl)), q⟩
theorem wE_lst {es : List M} {Q : D → Hq → Prop} (q : wEs T k es ρ h fun ds h1 => ds.length ≤ line ∧ Q (.ref h1.length) (h1 ++ [.lst ds])) : wE T k (.lst es) ρ h Q := by
  obtain ⟨ds, h1, e, hl, q⟩ := q
  exact ⟨_, _, ev_of ((onVs_eq e).trans (if_pos hl)), q⟩
theorem wE_dnew {Q : D → Hq → Prop} (q : Q (.ref h.length) (h ++ [.dK []])) : wE T k .dnew ρ h Q := ⟨_, _, ev_of rfl, q⟩
theorem toV_ok {o : Option (D × Hq)} {Q : D → Hq → Prop} (q : okP o Q) : ∃ d h', toV o = some (.val d h') ∧ Q d h' := by
  obtain ⟨d, h', rfl, q⟩ := q
  exact ⟨_, _, rfl, q⟩
theorem wE_op {o : Op} {a b : M} {Q : D → Hq → Prop} (q : wE T k a ρ h fun x h1 => wE T k b ρ h1 fun y h2 => OkBin o x y h2 Q) : wE T k (.op o a b) ρ h Q := by
  obtain ⟨x, h1, e1, y, h2, e2, q⟩ := q
  obtain ⟨d, h', e, q⟩ := toV_ok q.get
  exact ⟨d, h', ev_of ((onV_eq e1).trans ((onV_eq e2).trans e)), q⟩
theorem wE_neg {a : M} {Q : D → Hq → Prop} (q : wE T k a ρ h fun x h1 => OkNum x fun i => Q (.int (-i)) h1) : wE T k (.neg a) ρ h Q := by
  obtain ⟨x, h1, e1, i, e2, q⟩ := q
  exact ⟨_, _, ev_of ((onV_eq e1).trans (by rw [e2]; rfl)), q⟩
theorem wE_cmp {c : Cp} {a b : M} {Q : D → Hq → Prop} (q : wE T k a ρ h fun x h1 => wE T k b ρ h1 fun y h2 => OkCmp c x y h2 fun p => Q (.bl p) h2) : wE T k (.cmp c a b) ρ h Q := by
  obtain ⟨x, h1, e1, y, h2, e2, p, e3, q⟩ := q
  exact ⟨_, _, ev_of ((onV_eq e1).trans ((onV_eq e2).trans (by rw [e3]; rfl))), q⟩
theorem wE_chain {c c' : Cp} {a b d : M} {Q : D → Hq → Prop} (q : wE T k a ρ h fun x h1 => wE T k b ρ h1 fun y h2 => OkCmp c x y h2 fun p => ifB p (wE T k d ρ h2 fun z h3 => OkCmp c' y z h3 fun p => Q (.bl p) h3) (Q (.bl false) h2)) : wE T k (.chain c c' a b d) ρ h Q := by
  obtain ⟨x, h1, e1, y, h2, e2, p, e3, q⟩ := q
  cases p with
  | true =>
    obtain ⟨z, h3, e4, p, e5, q⟩ := q.1 rfl
    exact ⟨_, _, ev_of ((onV_eq e1).trans ((onV_eq e2).trans (by rw [e3]; exact (onV_eq e4).trans (by rw [e5]; rfl)))), q⟩
  | false => exact ⟨_, _, ev_of ((onV_eq e1).trans ((onV_eq e2).trans (by rw [e3]))), q.2 rfl⟩
theorem wE_one {a : M} {Q : D → Hq → Prop} (q : wE T k a ρ h Q) : wE T k (.one a) ρ h Q := by
  obtain ⟨x, h1, e1, q⟩ := q
  exact ⟨_, _, ev_of e1, q⟩
theorem wE_and {a b : M} {Q : D → Hq → Prop} (q : wE T k a ρ h fun x h1 => OkBl x fun c => ifB c (wE T k b ρ h1 Q) (Q (.bl false) h1)) : wE T k (.and a b) ρ h Q := by
  obtain ⟨x, h1, e1, c, e2, q⟩ := q
  cases c with
  | true =>
    obtain ⟨y, h2, e3, q⟩ := q.1 rfl
    exact ⟨_, _, ev_of ((onV_eq e1).trans (by rw [e2]; exact e3)), q⟩
  | false => exact ⟨_, _, ev_of ((onV_eq e1).trans (by rw [e2])), q.2 rfl⟩
theorem wE_or {a b : M} {Q : D → Hq → Prop} (q : wE T k a ρ h fun x h1 => OkBl x fun c => ifB c (Q (.bl true) h1) (wE T k b ρ h1 Q)) : wE T k (.or a b) ρ h Q := by
  obtain ⟨x, h1, e1, c, e2, q⟩ := q
  cases c with
  | false =>
    obtain ⟨y, h2, e3, q⟩ := q.2 rfl
    exact ⟨_, _, ev_of ((onV_eq e1).trans (by rw [e2]; exact e3)), q⟩
  | true => exact ⟨_, _, ev_of ((onV_eq e1).trans (by rw [e2])), q.1 rfl⟩
theorem wE_not {a : M} {Q : D → Hq → Prop} (q : wE T k a ρ h fun x h1 => OkBl x fun c => Q (.bl (!c)) h1) : wE T k (.not a) ρ h Q := by
  obtain ⟨x, h1, e1, c, e2, q⟩ := q
  exact ⟨_, _, ev_of ((onV_eq e1).trans (by rw [e2]; rfl)), q⟩
theorem wE_ite {t a b : M} {Q : D → Hq → Prop} (q : wT T k t ρ h fun c h1 => ifB c (wE T k a ρ h1 Q) (wE T k b ρ h1 Q)) : wE T k (.ite t a b) ρ h Q := by
  obtain ⟨c, h1, e1, q⟩ := q
  cases c with
  | true =>
    obtain ⟨y, h2, e3, q⟩ := q.1 rfl
    exact ⟨_, _, ev_of ((onB_eq e1).trans ((if_pos rfl).trans e3)), q⟩
  | false =>
    obtain ⟨y, h2, e3, q⟩ := q.2 rfl
    exact ⟨_, _, ev_of ((onB_eq e1).trans ((if_neg Bool.false_ne_true).trans e3)), q⟩
theorem wE_ix {a i : M} {Q : D → Hq → Prop} (q : wE T k a ρ h fun x h1 => wE T k i ρ h1 fun y h2 => OkIx x y h2 fun d => Q d h2) : wE T k (.ix a i) ρ h Q := by
  obtain ⟨x, h1, e1, y, h2, e2, p, e3, q⟩ := q
  exact ⟨_, _, ev_of ((onV_eq e1).trans ((onV_eq e2).trans (by rw [e3]; rfl))), q⟩
theorem wE_slc00 {a : M} {Q : D → Hq → Prop} (q : wE T k a ρ h fun x h1 => OkSl x none none h1 Q) : wE T k (.slc a none none) ρ h Q := by
  obtain ⟨x, h1, e1, q⟩ := q
  obtain ⟨d, h', e, q⟩ := toV_ok q.get
  exact ⟨d, h', ev_of ((onV_eq e1).trans e), q⟩
theorem wE_slc10 {a l : M} {Q : D → Hq → Prop} (q : wE T k a ρ h fun x h1 => wE T k l ρ h1 fun y h2 => OkNum y fun i => OkSl x (some i) none h2 Q) : wE T k (.slc a (some l) none) ρ h Q := by
  obtain ⟨x, h1, e1, y, h2, e2, i, e3, q⟩ := q
  obtain ⟨d, h', e, q⟩ := toV_ok q.get
  exact ⟨d, h', ev_of ((onV_eq e1).trans ((onV_eq e2).trans (by rw [e3]; exact e))), q⟩
theorem wE_slc01 {a l : M} {Q : D → Hq → Prop} (q : wE T k a ρ h fun x h1 => wE T k l ρ h1 fun y h2 => OkNum y fun i => OkSl x none (some i) h2 Q) : wE T k (.slc a none (some l)) ρ h Q := by
  obtain ⟨x, h1, e1, y, h2, e2, i, e3, q⟩ := q
  obtain ⟨d, h', e, q⟩ := toV_ok q.get
  exact ⟨d, h', ev_of ((onV_eq e1).trans ((onV_eq e2).trans (by rw [e3]; exact e))), q⟩
theorem wE_slc11 {a l u : M} {Q : D → Hq → Prop} (q : wE T k a ρ h fun x h1 => wE T k l ρ h1 fun y h2 => wE T k u ρ h2 fun z h3 => OkNum y fun i => OkNum z fun j => OkSl x (some i) (some j) h3 Q) : wE T k (.slc a (some l) (some u)) ρ h Q := by
  obtain ⟨x, h1, e1, y, h2, e2, z, h3, e3, i, e4, j, e5, q⟩ := q
  obtain ⟨d, h', e, q⟩ := toV_ok q.get
  exact ⟨d, h', ev_of ((onV_eq e1).trans ((onV_eq e2).trans ((onV_eq e3).trans (by rw [e4, e5]; exact e)))), q⟩
theorem wE_call {f : Nat} {args : List M} {Q : D → Hq → Prop} (q : wEs T k args ρ h fun ds h1 => wC T k f ds h1 Q) : wE T k (.call f args) ρ h Q := by
  obtain ⟨ds, h1, e1, d, h2, e2, q⟩ := q
  exact ⟨_, _, ev_of ((onVs_eq e1).trans e2), q⟩
theorem wE_bi {b : Bi} {args : List M} {Q : D → Hq → Prop} (q : wEs T k args ρ h fun ds h1 => OkBi b ds h1 Q) : wE T k (.bi b args) ρ h Q := by
  obtain ⟨x, h1, e1, q⟩ := q
  obtain ⟨d, h', e, q⟩ := toV_ok q.get
  exact ⟨d, h', ev_of ((onVs_eq e1).trans e), q⟩
theorem wE_isi {a : M} {t : Ty} {Q : D → Hq → Prop} (q : wE T k a ρ h fun x h1 => OkIsi x t h1 fun c => Q (.bl c) h1) : wE T k (.isi a t) ρ h Q := by
  obtain ⟨x, h1, e1, c, e2, q⟩ := q
  exact ⟨_, _, ev_of ((onV_eq e1).trans (by rw [e2]; rfl)), q⟩
theorem wE_mt {m : Mt} {o : M} {args : List M} {Q : D → Hq → Prop} (q : wE T k o ρ h fun x h1 => recvOk x h1 = true ∧ wEs T k args ρ h1 fun ds h2 => OkMt m x ds h2 Q) : wE T k (.mt m o args) ρ h Q := by
  obtain ⟨x, h1, e1, r, ds, h2, e2, q⟩ := q
  obtain ⟨d, h', e, q⟩ := toV_ok q.get
  exact ⟨d, h', ev_of ((onV_eq e1).trans ((if_pos r).trans ((onVs_eq e2).trans e))), q⟩
theorem wE_rng {b : Bi} {args : List M} {Q : D → Hq → Prop} (q : wEs T k args ρ h fun ds h1 => OkRng b ds h1 Q) : wE T k (.rng b args) ρ h Q := by
  obtain ⟨x, h1, e1, q⟩ := q
  obtain ⟨d, h', e, q⟩ := toV_ok q.get
  exact ⟨d, h', ev_of ((onVs_eq e1).trans e), q⟩
theorem wE_lc {own : List Nat} {it : I} {tg : Z.T} {ifs : Option M} {elt : M} {Q : D → Hq → Prop} (q : wI T k it ρ h fun w h1 => wL T k w 0 tg ifs elt own h1.length (wipeL ρ own) (h1 ++ [.lst []]) Q) : wE T k (.lc own it tg ifs elt) ρ h Q := by
  obtain ⟨w, h1, e1, d, h2, e2, q⟩ := q
  exact ⟨_, _, ev_of ((onI_eq e1).trans e2), q⟩
theorem wEs_nil {Q : List D → Hq → Prop} (q : Q [] h) : wEs T k [] ρ h Q := ⟨_, _, ev_of rfl, q⟩
theorem wEs_cons {m : M} {ms : List M} {Q : List D → Hq → Prop} (q : wE T k m ρ h fun x h1 => wEs T k ms ρ h1 fun xs h2 => Q (x :: xs) h2) : wEs T k (m :: ms) ρ h Q := by
  obtain ⟨x, h1, e1, xs, h2, e2, q⟩ := q
  exact ⟨_, _, ev_of ((onV_eq e1).trans (onVs_eq e2)), q⟩
/-! ### tests -/
theorem wT_cmp {c : Cp} {a b : M} {Q : Bool → Hq → Prop} (q : wE T k a ρ h fun x h1 => wE T k b ρ h1 fun y h2 => OkCmp c x y h2 fun p => Q p h2) : wT T k (.cmp c a b) ρ h Q := by
  obtain ⟨x, h1, e1, y, h2, e2, p, e3, q⟩ := q
  exact ⟨_, _, ev_of ((onV_eq e1).trans ((onV_eq e2).trans (by rw [e3]; rfl))), q⟩
theorem wT_chain {c c' : Cp} {a b d : M} {Q : Bool → Hq → Prop} (q : wE T k a ρ h fun x h1 => wE T k b ρ h1 fun y h2 => OkCmp c x y h2 fun p => ifB p (wE T k d ρ h2 fun z h3 => OkCmp c' y z h3 fun p => Q p h3) (Q false h2)) : wT T k (.chain c c' a b d) ρ h Q := by
  obtain ⟨x, h1, e1, y, h2, e2, p, e3, q⟩ := q
  cases p with
  | true =>
    obtain ⟨z, h3, e4, p, e5, q⟩ := q.1 rfl
    exact ⟨_, _, ev_of ((onV_eq e1).trans ((onV_eq e2).trans (by rw [e3]; exact (onV_eq e4).trans (by rw [e5]; rfl)))), q⟩
  | false => exact ⟨_, _, ev_of ((onV_eq e1).trans ((onV_eq e2).trans (by rw [e3]))), q.2 rfl⟩
theorem wT_one {a : M} {Q : Bool → Hq → Prop} (q : wT T k a ρ h Q) : wT T k (.one a) ρ h Q := by
  obtain ⟨x, h1, e1, q⟩ := q
  exact ⟨_, _, ev_of e1, q⟩
theorem wT_and {a b : M} {Q : Bool → Hq → Prop} (q : wT T k a ρ h fun c h1 => ifB c (wT T k b ρ h1 Q) (Q false h1)) : wT T k (.and a b) ρ h Q := by
  obtain ⟨c, h1, e1, q⟩ := q
  cases c with
  | true =>
    obtain ⟨y, h2, e3, q⟩ := q.1 rfl
    exact ⟨_, _, ev_of ((onB_eq e1).trans ((if_pos rfl).trans e3)), q⟩
  | false => exact ⟨_, _, ev_of ((onB_eq e1).trans (if_neg Bool.false_ne_true)), q.2 rfl⟩
theorem wT_or {a b : M} {Q : Bool → Hq → Prop} (q : wT T k a ρ h fun c h1 => ifB c (Q true h1) (wT T k b ρ h1 Q)) : wT T k (.or a b) ρ h Q := by
  obtain ⟨c, h1, e1, q⟩ := q
  cases c with
  | true => exact ⟨_, _, ev_of ((onB_eq e1).trans (if_pos rfl)), q.1 rfl⟩
  | false =>
    obtain ⟨y, h2, e3, q⟩ := q.2 rfl
    exact ⟨_, _, ev_of ((onB_eq e1).trans ((if_neg Bool.false_ne_true).trans e3)), q⟩
theorem wT_not {a : M} {Q : Bool → Hq → Prop} (q : wT T k a ρ h fun c h1 => Q (!c) h1) : wT T k (.not a) ρ h Q := by
  obtain ⟨c, h1, e1, q⟩ := q
  exact ⟨_, _, ev_of (onB_eq e1), q⟩
/-- any other test -/
theorem wT_val {m : M} (hm : (match m with | .cmp .. => false | .chain .. => false | .one .. => false | .and .. => false | .or .. => false | .not .. => false | .ite .. => false | _ => true) = true) {Q : Bool → Hq → Prop} (q : wE T k m ρ h fun x h1 => OkTr x h1 fun c => Q c h1) : wT T k m ρ h Q := by
  obtain ⟨x, h1, e1, c, e2, q⟩ := q
  refine ⟨c, h1, ev_of ?_, q⟩
  have z : (onV (ev T (.ex k m ρ h)) fun x h1 => (truth x h1).map fun c => R.tst c h1) = some (.tst c h1) := (onV_eq e1).trans (by rw [e2]; rfl)
  cases m <;> first | (cases hm; done) | exact z
/-! ### what a loop walks -/
theorem wI_of {a : M} {Q : It → Hq → Prop} (q : wE T k a ρ h fun x h1 => OkIt x h1 fun w => Q w h1) : wI T k (.of a) ρ h Q := by
  obtain ⟨x, h1, e1, c, e2, q⟩ := q
  exact ⟨_, _, ev_of ((onV_eq e1).trans (by rw [e2]; rfl)), q⟩
theorem wI_range {args : List M} {Q : It → Hq → Prop} (q : wEs T k args ρ h fun ds h1 => OkRange ds fun xs => Q (.items xs) h1) : wI T k (.range args) ρ h Q := by
  obtain ⟨x, h1, e1, c, e2, q⟩ := q
  exact ⟨_, _, ev_of ((onVs_eq e1).trans (by rw [e2]; rfl)), q⟩
/-- what enumerate walks -/
def enW (x : D) (h : Hq) : Option It := match x with
  | .tup ds => some (.items (enumD 0 ds))
  | .ref n => (seqAt h n).map fun _ => .enum n
  | _ => none
structure OkEn (x : D) (h : Hq) (Q : It → Prop) : Prop where
  get : ok (enW x h) Q
theorem wI_enum {a : M} {Q : It → Hq → Prop} (q : wE T k a ρ h fun x h1 => OkEn x h1 fun w => Q w h1) : wI T k (.enum a) ρ h Q := by
  obtain ⟨x, h1, e1, c, e2, q⟩ := q
  refine ⟨c, h1, ev_of ((onV_eq e1).trans ?_), q⟩
  cases x <;> simp only [enW] at e2 ⊢ <;> first | (cases e2; done) | (cases e2; rfl) | skip
  simp only [Option.map_eq_some_iff] at e2 ⊢
  obtain ⟨a, e3, rfl⟩ := e2
  exact ⟨a, e3, rfl⟩
/-- what zip walks -/
def zpW (x y : D) (h : Hq) : Option It := match x, y with
  | .tup xs, .tup ys => some (.items (List.zipWith (fun a b => D.tup [a, b]) xs ys))
  | .ref m, .ref n => match seqAt h m, seqAt h n with
    | some _, some _ => some (.zip m n)
    | _, _ => none
  | _, _ => none
structure OkZp (x y : D) (h : Hq) (Q : It → Prop) : Prop where
  get : ok (zpW x y h) Q
theorem wI_zip {a b : M} {Q : It → Hq → Prop} (q : wE T k a ρ h fun x h1 => wE T k b ρ h1 fun y h2 => OkZp x y h2 fun w => Q w h2) : wI T k (.zip a b) ρ h Q := by
  obtain ⟨x, h1, e1, y, h2, e2, w, e3, q⟩ := q
  refine ⟨w, h2, ev_of ((onV_eq e1).trans ((onV_eq e2).trans ?_)), q⟩
  cases x <;> cases y <;> simp only [zpW] at e3 ⊢ <;> first | (cases e3; done) | (cases e3; rfl) | skip
  split at e3
  · rename_i a1 a2; cases e3; first | rfl | (rw [a1, a2]; done) | (rw [a1, a2])
  · cases e3
def rvW (x : D) (h : Hq) : Option It := match x with
  | .tup ds => some (.items ds.reverse)
  | .ref n => (seqAt h n).map fun xs => .rev n xs.length
  | _ => none
structure OkRv (x : D) (h : Hq) (Q : It → Prop) : Prop where
  get : ok (rvW x h) Q
theorem wI_rev {a : M} {Q : It → Hq → Prop} (q : wE T k a ρ h fun x h1 => OkRv x h1 fun w => Q w h1) : wI T k (.rev a) ρ h Q := by
  obtain ⟨x, h1, e1, c, e2, q⟩ := q
  refine ⟨c, h1, ev_of ((onV_eq e1).trans ?_), q⟩
  cases x <;> simp only [rvW] at e2 ⊢ <;> first | (cases e2; done) | (cases e2; rfl) | skip
  simp only [Option.map_eq_some_iff] at e2 ⊢
  obtain ⟨a, e3, rfl⟩ := e2
  exact ⟨a, e3, rfl⟩
/-! ### targets -/
theorem wA_name {i : Nat} {d : D} {Q : Lo → Hq → Prop} (q : Q (ρ.set i (some d)) h) : wA T k (.name i) d ρ h Q := ⟨_, _, ev_of rfl, q⟩
theorem wA_tup {ts : List Z.T} {ds : List D} {Q : Lo → Hq → Prop} (hl : ds.length = ts.length) (q : wAs T k ts ds ρ h Q) : wA T k (.tup ts) (.tup ds) ρ h Q := by
  obtain ⟨ρ', h', e, q⟩ := q
  exact ⟨_, _, ev_of ((if_pos hl).trans e), q⟩
theorem wA_sub {o i : M} {d : D} {Q : Lo → Hq → Prop} (q : wE T k o ρ h fun x h1 => wE T k i ρ h1 fun y h2 => OkSet x y d h2 fun h3 => Q ρ h3) : wA T k (.sub o i) d ρ h Q := by
  obtain ⟨x, h1, e1, y, h2, e2, w, e3, q⟩ := q
  exact ⟨_, _, ev_of ((onV_eq e1).trans ((onV_eq e2).trans (by rw [e3]; rfl))), q⟩
theorem wAs_nil {Q : Lo → Hq → Prop} (q : Q ρ h) : wAs T k [] [] ρ h Q := ⟨_, _, ev_of rfl, q⟩
theorem wAs_cons {t : Z.T} {ts : List Z.T} {d : D} {ds : List D} {Q : Lo → Hq → Prop} (q : wA T k t d ρ h fun ρ1 h1 => wAs T k ts ds ρ1 h1 Q) : wAs T k (t :: ts) (d :: ds) ρ h Q := by
  obtain ⟨ρ1, h1, e1, ρ2, h2, e2, q⟩ := q
  exact ⟨_, _, ev_of ((onN_eq e1).trans e2), q⟩
/-! ### statements -/
theorem wS_asg {t : Z.T} {e : M} {Q : R → Prop} (q : wE T k e ρ h fun x h1 => wA T k t x ρ h1 fun ρ' h' => Q (.nx ρ' h')) : wS T k (.asg t e) ρ h Q := by
  obtain ⟨x, h1, e1, ρ2, h2, e2, q⟩ := q
  exact ⟨_, ev_of ((onV_eq e1).trans e2), q⟩
def parL (is : List Nat) (ds : List D) (ρ : Lo) : Option Lo := match is, ds with
  | [i, j], [x, y] => some ((ρ.set i (some x)).set j (some y))
  | [i, j, l], [x, y, z] => some (((ρ.set i (some x)).set j (some y)).set l (some z))
  | _, _ => none
theorem wS_par2 {i j : Nat} {a b : M} {Q : R → Prop} (q : wE T k a ρ h fun x h1 => wE T k b ρ h1 fun y h2 => Q (.nx ((ρ.set i (some x)).set j (some y)) h2)) : wS T k (.par [i, j] [a, b]) ρ h Q := by
  obtain ⟨x, h1, e1, y, h2, e2, q⟩ := q
  obtain ⟨ds, h3, e3, rfl, rfl⟩ : wEs T k [a, b] ρ h fun ds w => ds = [x, y] ∧ w = h2 := wEs_cons ⟨x, h1, e1, wEs_cons ⟨y, h2, e2, wEs_nil ⟨rfl, rfl⟩⟩⟩
  exact ⟨_, ev_of ((onVs_eq e3).trans rfl), q⟩
theorem wS_par3 {i j l : Nat} {a b c : M} {Q : R → Prop} (q : wE T k a ρ h fun x h1 => wE T k b ρ h1 fun y h2 => wE T k c ρ h2 fun z h3 => Q (.nx (((ρ.set i (some x)).set j (some y)).set l (some z)) h3)) : wS T k (.par [i, j, l] [a, b, c]) ρ h Q := by
  obtain ⟨x, h1, e1, y, h2, e2, z, h3, e3, q⟩ := q
  obtain ⟨ds, h4, e4, rfl, rfl⟩ : wEs T k [a, b, c] ρ h fun ds w => ds = [x, y, z] ∧ w = h3 := wEs_cons ⟨x, h1, e1, wEs_cons ⟨y, h2, e2, wEs_cons ⟨z, h3, e3, wEs_nil ⟨rfl, rfl⟩⟩⟩⟩
  exact ⟨_, ev_of ((onVs_eq e4).trans rfl), q⟩
theorem wS_add {i : Nat} {e : M} {a : Int} {Q : R → Prop} (hi : ρ[i]? = some (some (.int a))) (q : wE T k e ρ h fun y h1 => OkNum y fun b => Q (.nx (ρ.set i (some (.int (a + b)))) h1)) : wS T k (.aug i .add e) ρ h Q := by
  obtain ⟨y, h1, e1, b, e2, q⟩ := q
  cases y <;> simp [int?] at e2
  subst e2
  refine ⟨_, ev_of ?_, q⟩
  simp only [step, stepS, hi]
  exact onV_eq e1
theorem wS_subt {i : Nat} {e : M} {a : Int} {Q : R → Prop} (hi : ρ[i]? = some (some (.int a))) (q : wE T k e ρ h fun y h1 => OkNum y fun b => Q (.nx (ρ.set i (some (.int (a - b)))) h1)) : wS T k (.aug i .sub e) ρ h Q := by
  obtain ⟨y, h1, e1, b, e2, q⟩ := q
  cases y <;> simp [int?] at e2
  subst e2
  refine ⟨_, ev_of ?_, q⟩
  simp only [step, stepS, hi]
  exact onV_eq e1
theorem wS_expr {e : M} {Q : R → Prop} (q : wE T k e ρ h fun _ h1 => Q (.nx ρ h1)) : wS T k (.expr e) ρ h Q := by
  obtain ⟨x, h1, e1, q⟩ := q
  exact ⟨_, ev_of (onV_eq e1), q⟩
theorem wS_ret {e : M} {Q : R → Prop} (q : wE T k e ρ h fun d h1 => Q (.ret d h1)) : wS T k (.ret e) ρ h Q := by
  obtain ⟨x, h1, e1, q⟩ := q
  exact ⟨_, ev_of (onV_eq e1), q⟩
theorem wS_retN {Q : R → Prop} (q : Q (.ret .non h)) : wS T k .retN ρ h Q := ⟨_, ev_of rfl, q⟩
theorem wS_iff {t : M} {a b : List S} {Q : R → Prop} (q : wT T k t ρ h fun c h1 => ifB c (wB T k a ρ h1 Q) (wB T k b ρ h1 Q)) : wS T k (.iff t a b) ρ h Q := by
  obtain ⟨c, h1, e1, q⟩ := q
  cases c with
  | true =>
    obtain ⟨r, e2, q⟩ := q.1 rfl
    exact ⟨_, ev_of ((onB_eq e1).trans ((if_pos rfl).trans e2)), q⟩
  | false =>
    obtain ⟨r, e2, q⟩ := q.2 rfl
    exact ⟨_, ev_of ((onB_eq e1).trans ((if_neg Bool.false_ne_true).trans e2)), q⟩
theorem wS_whl {t : M} {b : List S} {Q : R → Prop} (q : wW T k t b ρ h Q) : wS T k (.whl t b) ρ h Q := by
  obtain ⟨r, e, q⟩ := q
  exact ⟨_, ev_of e, q⟩
theorem wS_for {t : Z.T} {it : I} {b : List S} {Q : R → Prop} (q : wI T k it ρ h fun w h1 => wF T k w 0 t b ρ h1 Q) : wS T k (.for_ t it b) ρ h Q := by
  obtain ⟨w, h1, e1, r, e2, q⟩ := q
  exact ⟨_, ev_of ((onI_eq e1).trans e2), q⟩
theorem wS_brk {Q : R → Prop} (q : Q (.brk ρ h)) : wS T k .brk ρ h Q := ⟨_, ev_of rfl, q⟩
theorem wS_cont {Q : R → Prop} (q : Q (.cont ρ h)) : wS T k .cont ρ h Q := ⟨_, ev_of rfl, q⟩
theorem wS_pass {Q : R → Prop} (q : Q (.nx ρ h)) : wS T k .pass ρ h Q := ⟨_, ev_of rfl, q⟩
theorem wB_nil {Q : R → Prop} (q : Q (.nx ρ h)) : wB T k [] ρ h Q := ⟨_, ev_of rfl, q⟩
theorem wB_cons {s : S} {r : List S} {Q : R → Prop} (q : wS T k s ρ h (onR Q fun ρ1 h1 => wB T k r ρ1 h1 Q)) : wB T k (s :: r) ρ h Q := by
  obtain ⟨x, e, q⟩ := q
  cases x <;> first | exact q.elim | skip
  · obtain ⟨y, e2, q⟩ := q
    refine ⟨y, ev_of ?_, q⟩
    show onStmt _ _ = _
    rw [e]; exact e2
  all_goals
    refine ⟨_, ev_of ?_, q⟩
    show onStmt _ _ = _
    rw [e]; rfl
/-! ### calls, loops -/
theorem wC_in {F : Fn} {f : Nat} {ds : List D} {Q : D → Hq → Prop} (hF : T.fns[f]? = some F) (hl : ds.length = F.ps.length) (q : wB T k F.body (startL F.N.length ds) h (onC Q)) : wC T (k + 1) f ds h Q := by
  obtain ⟨r, e, q⟩ := q
  have go : ∀ v, onDef (some r) = some v → ev T (.call (k + 1) f ds h) = some v := fun v hv => ev_of (by
    simp only [step, hF]
    rw [if_pos hl, e]
    exact hv)
  cases r <;> first | exact q.elim | exact ⟨_, _, go _ rfl, q⟩
theorem wC_mono {f : Nat} {ds : List D} {P Q : D → Hq → Prop} (p : wC T k f ds h P) (q : ∀ d h', P d h' → Q d h') : wC T k f ds h Q := let ⟨d, h', e, p⟩ := p; ⟨d, h', e, q d h' p⟩
theorem wE_mono {m : M} {P Q : D → Hq → Prop} (p : wE T k m ρ h P) (q : ∀ d h', P d h' → Q d h') : wE T k m ρ h Q := let ⟨d, h', e, p⟩ := p; ⟨d, h', e, q d h' p⟩
theorem wB_mono {m : List S} {P Q : R → Prop} (p : wB T k m ρ h P) (q : ∀ r, P r → Q r) : wB T k m ρ h Q := let ⟨d, e, p⟩ := p; ⟨d, e, q d p⟩
theorem wF_mono {w : It} {i : Nat} {t : Z.T} {b : List S} {P Q : R → Prop} (p : wF T k w i t b ρ h P) (q : ∀ r, P r → Q r) : wF T k w i t b ρ h Q := let ⟨d, e, p⟩ := p; ⟨d, e, q d p⟩
theorem wW_mono {t : M} {b : List S} {P Q : R → Prop} (p : wW T k t b ρ h P) (q : ∀ r, P r → Q r) : wW T k t b ρ h Q := let ⟨d, e, p⟩ := p; ⟨d, e, q d p⟩
theorem onBody_of {r : R} {f : Lo → Hq → Option R} {Q : R → Prop} {P : Lo → Hq → Prop} (p : onL Q P r) (hf : ∀ ρ h, P ρ h → ∃ x, f ρ h = some x ∧ Q x) : ∃ x, onBody (some r) f = some x ∧ Q x := by
  cases r <;> first | exact p.elim | exact hf _ _ p | exact ⟨_, rfl, p⟩
/-- for: the turns that stand in items -/
theorem wF_inv {w : It} {t : Z.T} {b : List S} {Q : R → Prop} (items : List D) (inv : Nat → Lo → Hq → Prop) (ht : ∀ i ρ h, inv i ρ h → turn w i h = some items[i]?)
    (hs : ∀ i d ρ h, items[i]? = some d → inv i ρ h → wA T k t d ρ h fun ρ1 h1 => wB T k b ρ1 h1 (onL Q (inv (i + 1)))) (hd : ∀ ρ h, inv items.length ρ h → Q (.nx ρ h)) :
    ∀ (m i : Nat) (ρ : Lo) (h : Hq), m + i = items.length → inv i ρ h → wF T k w i t b ρ h Q
  | 0, i, ρ, h, hm, hi => by
    have e : i = items.length := by omega
    refine ⟨_, ev_of ?_, hd ρ h (e ▸ hi)⟩
    simp only [step, ht i ρ h hi]
    rw [List.getElem?_eq_none (by omega)]
  | m + 1, i, ρ, h, hm, hi => by
    have hlt : i < items.length := by omega
    have e : items[i]? = some items[i] := List.getElem?_eq_getElem hlt
    obtain ⟨ρ1, h1, e1, r, e2, q⟩ := hs i _ ρ h e hi
    obtain ⟨x, e3, q⟩ := onBody_of (f := fun ρ2 h2 => ev T (.forL k w (i + 1) t b ρ2 h2)) q fun ρ2 h2 p => wF_inv items inv ht hs hd m (i + 1) ρ2 h2 (by omega) p
    refine ⟨x, ev_of ?_, q⟩
    simp only [step, ht i ρ h hi, e]
    exact (onN_eq e1).trans (by rw [e2]; exact e3)
theorem wF_all {w : It} {t : Z.T} {b : List S} {Q : R → Prop} (items : List D) (inv : Nat → Lo → Hq → Prop) (h0 : inv 0 ρ h) (ht : ∀ i ρ h, inv i ρ h → turn w i h = some items[i]?)
    (hs : ∀ i d ρ h, items[i]? = some d → inv i ρ h → wA T k t d ρ h fun ρ1 h1 => wB T k b ρ1 h1 (onL Q (inv (i + 1)))) (hd : ∀ ρ h, inv items.length ρ h → Q (.nx ρ h)) : wF T k w 0 t b ρ h Q :=
  wF_inv items inv ht hs hd items.length 0 ρ h rfl h0
theorem wW_inv {t : M} {b : List S} {Q : R → Prop} (inv : Nat → Lo → Hq → Prop)
    (hs : ∀ m ρ h, inv m ρ h → wT T k t ρ h fun c h1 => ifB c (wB T k b ρ h1 (onL Q fun ρ2 h2 => ∃ m', m' < m ∧ inv m' ρ2 h2)) (Q (.nx ρ h1))) :
    ∀ (m : Nat) (ρ : Lo) (h : Hq), inv m ρ h → wW T k t b ρ h Q := fun m => by
  induction m using Nat.strongRecOn with
  | ind m ih =>
    intro ρ h hi
    obtain ⟨c, h1, e1, q⟩ := hs m ρ h hi
    cases c with
    | false =>
      refine ⟨_, ev_of ?_, q.2 rfl⟩
      exact (onB_eq e1).trans (if_neg Bool.false_ne_true)
    | true =>
      obtain ⟨r, e2, q⟩ := q.1 rfl
      obtain ⟨x, e3, q⟩ := onBody_of (f := fun ρ2 h2 => ev T (.whL k t b ρ2 h2)) q fun ρ2 h2 ⟨m', hm, p⟩ => ih m' hm ρ2 h2 p
      refine ⟨x, ev_of ?_, q⟩
      refine (onB_eq e1).trans ((if_pos rfl).trans ?_)
      rw [e2]; exact e3
/-- a comprehension's element, behind its test -/
def wLE (T : Tbl) (k : Nat) (ifs : Option M) (elt : M) (ρ : Lo) (h : Hq) (yes : D → Hq → Prop) (no : Hq → Prop) : Prop := match ifs with
  | none => wE T k elt ρ h yes
  | some c => wT T k c ρ h fun b h1 => ifB b (wE T k elt ρ h1 yes) (no h1)
theorem lst_get {h : Hq} {n : Nat} {xs : List D} (e : h[n]? = some (.lst xs)) : lstAt h n = some xs := by unfold lstAt; rw [e]
theorem seq_get {h : Hq} {n : Nat} {xs : List D} (e : h[n]? = some (.lst xs)) : seqAt h n = some xs := by unfold seqAt; rw [e]
theorem seq_ro {h : Hq} {n : Nat} {xs : List D} (e : h[n]? = some (.ro xs)) : seqAt h n = some xs := by unfold seqAt; rw [e]
theorem wL_inv {w : It} {t : Z.T} {ifs : Option M} {elt : M} {own : List Nat} {n : Nat} {Q : D → Hq → Prop} (items : List D) (inv : Nat → List D → Hq → Prop) (ht : ∀ i acc h, inv i acc h → turn w i h = some items[i]?)
    (hs : ∀ i d acc h, items[i]? = some d → inv i acc h → wA T k t d ρ h fun ρ1 h1 => wLE T k ifs elt ρ1 h1 (fun y h3 => h3[n]? = some (.lst acc) ∧ acc.length < line ∧ inv (i + 1) (acc ++ [y]) (h3.set n (.lst (acc ++ [y])))) fun h2 => inv (i + 1) acc h2)
    (hd : ∀ acc h, inv items.length acc h → Q (.ref n) h) : ∀ (m i : Nat) (acc : List D) (h : Hq), m + i = items.length → inv i acc h → wL T k w i t ifs elt own n ρ h Q
  | 0, i, acc, h, hm, hi => by
    have e : i = items.length := by omega
    refine ⟨_, _, ev_of ?_, hd acc h (e ▸ hi)⟩
    simp only [step, ht i acc h hi]
    rw [List.getElem?_eq_none (by omega)]
  | m + 1, i, acc, h, hm, hi => by
    have hlt : i < items.length := by omega
    have e : items[i]? = some items[i] := List.getElem?_eq_getElem hlt
    obtain ⟨ρ1, h1, e1, q⟩ := hs i _ acc h e hi
    have fin : ∀ {h2 : Hq}, (wE T k elt ρ1 h2 fun y h3 => h3[n]? = some (.lst acc) ∧ acc.length < line ∧ inv (i + 1) (acc ++ [y]) (h3.set n (.lst (acc ++ [y])))) → ∃ d h', (onV (ev T (.ex k elt ρ1 h2)) fun y h3 => match lstAt h3 n with
        | some acc => if acc.length < line then ev T (.lcL k w (i + 1) t ifs elt own n ρ (h3.set n (.lst (acc ++ [y])))) else none
        | none => none) = some (.val d h') ∧ Q d h' := fun {h2} q => by
      obtain ⟨y, h3, e3, g, hl, p⟩ := q
      obtain ⟨d, h', e4, q⟩ := wL_inv items inv ht hs hd m (i + 1) _ _ (by omega) p
      refine ⟨d, h', (onV_eq e3).trans ?_, q⟩
      rw [lst_get g]
      exact (if_pos hl).trans e4
    cases ifs with
    | none =>
      obtain ⟨d, h', e2, q⟩ := fin q
      refine ⟨d, h', ev_of ?_, q⟩
      simp only [step, ht i acc h hi, e]
      exact (onN_eq e1).trans e2
    | some c =>
      obtain ⟨b, h2, e2, q⟩ := q
      cases b with
      | true =>
        obtain ⟨d, h', e3, q⟩ := fin (q.1 rfl)
        refine ⟨d, h', ev_of ?_, q⟩
        simp only [step, ht i acc h hi, e]
        exact (onN_eq e1).trans ((onB_eq e2).trans ((if_pos rfl).trans e3))
      | false =>
        obtain ⟨d, h', e4, q⟩ := wL_inv items inv ht hs hd m (i + 1) _ _ (by omega) (q.2 rfl)
        refine ⟨d, h', ev_of ?_, q⟩
        simp only [step, ht i acc h hi, e]
        exact (onN_eq e1).trans ((onB_eq e2).trans ((if_neg Bool.false_ne_true).trans e4))
theorem wL_all {w : It} {t : Z.T} {ifs : Option M} {elt : M} {own : List Nat} {n : Nat} {Q : D → Hq → Prop} (items : List D) (inv : Nat → List D → Hq → Prop) (h0 : inv 0 [] h) (ht : ∀ i acc h, inv i acc h → turn w i h = some items[i]?)
    (hs : ∀ i d acc h, items[i]? = some d → inv i acc h → wA T k t d ρ h fun ρ1 h1 => wLE T k ifs elt ρ1 h1 (fun y h3 => h3[n]? = some (.lst acc) ∧ acc.length < line ∧ inv (i + 1) (acc ++ [y]) (h3.set n (.lst (acc ++ [y])))) fun h2 => inv (i + 1) acc h2)
    (hd : ∀ acc h, inv items.length acc h → Q (.ref n) h) : wL T k w 0 t ifs elt own n ρ h Q := wL_inv items inv ht hs hd items.length 0 [] h rfl h0
end
end Z
set_option maxHeartbeats 1000000
/-! ZX: operations on data, as they are wanted. -/
namespace Z
open PySem
/-! ### the heap -/
theorem pfx_get {h h' : Hq} {n : Nat} {o : O} (p : h <+: h') (e : h[n]? = some o) : h'[n]? = some o := by
  obtain ⟨l, rfl⟩ := p
  rw [List.getElem?_append_left (List.getElem?_eq_some_iff.mp e).1]; exact e
theorem lt_get {h : Hq} {n : Nat} {o : O} (e : h[n]? = some o) : n < h.length := (List.getElem?_eq_some_iff.mp e).1
theorem pfx_len {h h' : Hq} (p : h <+: h') : h.length ≤ h'.length := p.length_le
theorem pfx_new {h : Hq} {o : O} : h <+: h ++ [o] := List.prefix_append _ _
theorem new_get {h : Hq} {o : O} : (h ++ [o])[h.length]? = some o := by rw [List.getElem?_append_right (Nat.le_refl _), Nat.sub_self]; rfl
theorem set_get {h : Hq} {n : Nat} {o u : O} (e : h[n]? = some u) : (h.set n o)[n]? = some o := List.getElem?_set_self (lt_get e)
/-- behind what stood at the base, anything may be written -/
theorem pfx_set {b h : Hq} {n : Nat} {o : O} (p : b <+: h) (hn : b.length ≤ n) : b <+: h.set n o := by
  obtain ⟨l, rfl⟩ := p
  rw [List.set_append_right _ _ hn]
  exact List.prefix_append _ _
/-- the same but for the place n -/
structure Hs (n : Nat) (h h' : Hq) : Prop where
  len : h.length ≤ h'.length
  get : ∀ m o, m ≠ n → h[m]? = some o → h'[m]? = some o
theorem Hs.refl {n : Nat} {h : Hq} : Hs n h h := ⟨Nat.le_refl _, fun _ _ _ e => e⟩
theorem Hs.trans {n : Nat} {h h' h'' : Hq} (a : Hs n h h') (b : Hs n h' h'') : Hs n h h'' := ⟨Nat.le_trans a.len b.len, fun m o hm e => b.get m o hm (a.get m o hm e)⟩
theorem Hs.pfx {n : Nat} {h h' : Hq} (p : h <+: h') : Hs n h h' := ⟨pfx_len p, fun m o _ e => pfx_get p e⟩
theorem Hs.set {n : Nat} {h : Hq} {o : O} : Hs n h (h.set n o) := ⟨by rw [List.length_set]; exact Nat.le_refl _, fun m u hm e => by rw [List.getElem?_set_ne (Ne.symm hm)]; exact e⟩
/-- a write behind the base -/
theorem Hs.beyond {n m : Nat} {b h : Hq} {o : O} (a : Hs n b h) (hm : b.length ≤ m) : Hs n b (h.set m o) := ⟨by rw [List.length_set]; exact a.len, fun j u hj e => by
  have := lt_get e
  rw [List.getElem?_set_ne (by omega)]; exact a.get j u hj e⟩
section
variable {h : Hq}
theorem recv_get {n : Nat} {ys : List D} {P : Prop} (e : h[n]? = some (.lst ys)) (p : P) : recvOk (.ref n) h = true ∧ P := ⟨by unfold recvOk; simp only [lst_get e]; rfl, p⟩
theorem and_le {ds : List D} {P : Prop} (hl : Nat.ble ds.length line = true) (p : P) : ds.length ≤ line ∧ P := ⟨Nat.le_of_ble_eq_true hl, p⟩
/-! ### ints -/
theorem fit_of {i : Int} (h : i.natAbs < 2 ^ 200) : i.natAbs.log2 < 200 := by
  by_cases h0 : i.natAbs = 0
  · rw [h0]; decide
  · exact (Nat.log2_lt h0).mpr h
theorem ok_mulF {i j : Int} {Q : D → Hq → Prop} (hi : i.natAbs.log2 < 1000) (hj : j.natAbs.log2 < 1000) (q : Q (.int (i * j)) h) : OkBin .mul (.int i) (.int j) h Q := ⟨okP_in (if_pos (by omega)) q⟩
theorem ok_mul {i j : Int} {Q : D → Hq → Prop} (hi : i.natAbs < 2 ^ 200) (hj : j.natAbs < 2 ^ 200) (q : Q (.int (i * j)) h) : OkBin .mul (.int i) (.int j) h Q := ⟨okP_in (if_pos (by have := fit_of hi; have := fit_of hj; omega)) q⟩
theorem ok_mod {i j : Int} {Q : D → Hq → Prop} (hj : 0 < j) (q : Q (.int (i % j)) h) : OkBin .mod (.int i) (.int j) h Q := ⟨okP_in (if_pos hj) q⟩
theorem ok_fdiv {i j : Int} {Q : D → Hq → Prop} (hj : 0 < j) (hl : j.natAbs < 2 ^ 200) (q : Q (.int (i / j)) h) : OkBin .fdiv (.int i) (.int j) h Q := ⟨okP_in (if_pos ⟨hj, by have := fit_of hl; omega⟩) q⟩
theorem ok_pow {i : Int} {j : Nat} {Q : D → Hq → Prop} (hj : j ≤ 1000000) (hl : i.natAbs < 2 ^ 64) (q : Q (.int (i ^ j)) h) : OkBin .pow (.int i) (.int (j : Nat)) h Q := ⟨okP_in (if_pos ⟨by omega, by omega, hl⟩) (by rw [Int.toNat_natCast]; exact q)⟩
/-! ### subscripts -/
theorem atI_n {α : Type} {xs : List α} {j : Int} {v : α} (h0 : 0 ≤ j) (e : xs[j.toNat]? = some v) : L2.atI xs j = some v := by
  have := L2.atI_nat e
  rwa [Int.toNat_of_nonneg h0] at this
theorem ok_ixL {n : Nat} {ds : List D} {j : Int} {d : D} {Q : D → Prop} (e : h[n]? = some (.lst ds)) (a : L2.atI ds j = some d) (q : Q d) : OkIx (.ref n) (.int j) h Q := ⟨ok_in (by simp only [ixD, e]; exact a) q⟩
theorem ok_ixR {n : Nat} {ds : List D} {j : Int} {d : D} {Q : D → Prop} (e : h[n]? = some (.ro ds)) (a : L2.atI ds j = some d) (q : Q d) : OkIx (.ref n) (.int j) h Q := ⟨ok_in (by simp only [ixD, e]; exact a) q⟩
theorem ok_ixT {ds : List D} {j : Int} {d : D} {Q : D → Prop} (a : L2.atI ds j = some d) (q : Q d) : OkIx (.tup ds) (.int j) h Q := ⟨ok_in (by simp only [ixD]; exact a) q⟩
theorem ixN_n {n j : Nat} (hj : j < n) : L2.ixN n (j : Int) = some j := by
  unfold L2.ixN
  rw [if_pos (by omega), if_pos (by omega), Int.toNat_natCast]
theorem ok_setL {n : Nat} {ds : List D} {j : Int} {v : D} {Q : Hq → Prop} (e : h[n]? = some (.lst ds)) (h0 : 0 ≤ j) (h1 : j.toNat < ds.length) (q : ∀ h', h'[n]? = some (.lst (ds.set j.toNat v)) → h' = h.set n (.lst (ds.set j.toNat v)) → Q h') : OkSet (.ref n) (.int j) v h Q := by
  refine ⟨ok_in (x := h.set n (.lst (ds.set j.toNat v))) ?_ (q _ (set_get e) rfl)⟩
  simp only [setD, e, int?, Option.bind_some]
  have : L2.ixN ds.length j = some j.toNat := by have := ixN_n h1; rwa [Int.toNat_of_nonneg h0] at this
  rw [this]; rfl
/-! ### lists -/
theorem ok_app {n : Nat} {ys : List D} {x : D} {Q : D → Hq → Prop} (e : h[n]? = some (.lst ys)) (hl : ys.length < line) (q : ∀ h', h'[n]? = some (.lst (ys ++ [x])) → h' = h.set n (.lst (ys ++ [x])) → Q (.non) h') : OkMt .append (.ref n) [x] h Q := by
  refine ⟨okP_in (d := .non) (h' := h.set n (.lst (ys ++ [x]))) ?_ (q _ (set_get e) rfl)⟩
  simp only [mtD, lst_get e]
  exact if_pos hl
theorem ok_ext {n m : Nat} {ys zs : List D} {Q : D → Hq → Prop} (e : h[n]? = some (.lst ys)) (f : h[m]? = some (.lst zs)) (hl : ys.length + zs.length ≤ line) (q : ∀ h', h'[n]? = some (.lst (ys ++ zs)) → h' = h.set n (.lst (ys ++ zs)) → Q (.non) h') : OkMt .extend (.ref n) [.ref m] h Q := by
  refine ⟨okP_in (d := .non) (h' := h.set n (.lst (ys ++ zs))) ?_ (q _ (set_get e) rfl)⟩
  simp only [mtD, lst_get e, lst_get f]
  exact if_pos hl
theorem ok_rep {n : Nat} {ys : List D} {k : Int} {Q : D → Hq → Prop} (e : h[n]? = some (.lst ys)) (h0 : 0 ≤ k) (hl : ys.length * k.toNat ≤ line) (h1 : k < 2 ^ 62) (q : ∀ h', h'[h.length]? = some (.lst (List.replicate k.toNat ys).flatten) → h <+: h' → Q (.ref h.length) h') : OkBin .mul (.ref n) (.int k) h Q := by
  refine ⟨okP_in (d := .ref h.length) (h' := h ++ [.lst (List.replicate k.toNat ys).flatten]) ?_ (q _ new_get pfx_new)⟩
  simp only [binop, lst_get e]
  exact if_pos ⟨by omega, by omega, hl⟩
theorem ok_cat {n m : Nat} {ys zs : List D} {Q : D → Hq → Prop} (e : h[n]? = some (.lst ys)) (f : h[m]? = some (.lst zs)) (hl : ys.length + zs.length ≤ line) (q : ∀ h', h'[h.length]? = some (.lst (ys ++ zs)) → h <+: h' → Q (.ref h.length) h') : OkBin .add (.ref n) (.ref m) h Q := by
  refine ⟨okP_in (d := .ref h.length) (h' := h ++ [.lst (ys ++ zs)]) ?_ (q _ new_get pfx_new)⟩
  simp only [binop, lst_get e, lst_get f]
  exact if_pos hl
theorem ok_tupcat {xs ys : List D} {Q : D → Hq → Prop} (hl : xs.length + ys.length ≤ line) (q : Q (.tup (xs ++ ys)) h) : OkBin .add (.tup xs) (.tup ys) h Q := ⟨okP_in (if_pos hl) q⟩
theorem wE_lst' {T : Tbl} {k : Nat} {ρ : Lo} {es : List M} {Q : D → Hq → Prop} (q : wEs T k es ρ h fun ds h1 => ds.length ≤ line ∧ ∀ h', h'[h1.length]? = some (.lst ds) → h1 <+: h' → Q (.ref h1.length) h') : wE T k (.lst es) ρ h Q := by
  obtain ⟨ds, h1, e, hl, q⟩ := q
  exact wE_lst ⟨ds, h1, e, hl, q _ new_get pfx_new⟩
theorem ok_lenL {n : Nat} {ds : List D} {Q : D → Hq → Prop} (e : h[n]? = some (.lst ds)) (q : Q (.int ds.length) h) : OkBi .len [.ref n] h Q := ⟨okP_in (by simp only [biD, e]) q⟩
theorem ok_lenR {n : Nat} {ds : List D} {Q : D → Hq → Prop} (e : h[n]? = some (.ro ds)) (q : Q (.int ds.length) h) : OkBi .len [.ref n] h Q := ⟨okP_in (by simp only [biD, e]) q⟩
theorem ok_lenT {ds : List D} {Q : D → Hq → Prop} (q : Q (.int ds.length) h) : OkBi .len [.tup ds] h Q := ⟨okP_in rfl q⟩
theorem ok_tupL {n : Nat} {ds : List D} {Q : D → Hq → Prop} (e : h[n]? = some (.lst ds)) (q : Q (.tup ds) h) : OkBi .tuple [.ref n] h Q := ⟨okP_in (by simp only [biD, seq_get e]; rfl) q⟩
theorem ok_lstL {n : Nat} {ds : List D} {Q : D → Hq → Prop} (e : h[n]? = some (.lst ds)) (q : ∀ h', h'[h.length]? = some (.lst ds) → h <+: h' → Q (.ref h.length) h') : OkBi .list [.ref n] h Q := ⟨okP_in (by simp only [biD, seq_get e]; rfl) (q _ new_get pfx_new)⟩
theorem ok_lstT {ds : List D} {Q : D → Hq → Prop} (q : ∀ h', h'[h.length]? = some (.lst ds) → h <+: h' → Q (.ref h.length) h') : OkBi .list [.tup ds] h Q := ⟨okP_in rfl (q _ new_get pfx_new)⟩
theorem intsOf_map : ∀ xs : List Int, intsOf (xs.map .int) = some xs
  | [] => rfl
  | x :: r => by simp only [List.map_cons, intsOf, intsOf_map r]; rfl
theorem bolsOf_map : ∀ xs : List Bool, bolsOf (xs.map .bl) = some xs
  | [] => rfl
  | x :: r => by simp only [List.map_cons, bolsOf, bolsOf_map r]; rfl
theorem ok_sum {n : Nat} {xs : List Int} {Q : D → Hq → Prop} (e : h[n]? = some (.lst (xs.map .int))) (q : Q (.int xs.sum) h) : OkBi .sum [.ref n] h Q := ⟨okP_in (by simp only [biD, seq_get e, Option.bind_some, intsOf_map]; rfl) q⟩
theorem ok_max {n : Nat} {x : Int} {xs : List Int} {Q : D → Hq → Prop} (e : h[n]? = some (.lst ((x :: xs).map .int))) (q : Q (.int (maxI (x :: xs))) h) : OkBi .mx [.ref n] h Q := ⟨okP_in (by simp only [biD, seq_get e, Option.bind_some, intsOf_map]) q⟩
theorem ok_min {n : Nat} {x : Int} {xs : List Int} {Q : D → Hq → Prop} (e : h[n]? = some (.lst ((x :: xs).map .int))) (q : Q (.int (minI (x :: xs))) h) : OkBi .mn [.ref n] h Q := ⟨okP_in (by simp only [biD, seq_get e, Option.bind_some, intsOf_map]) q⟩
theorem ok_any {n : Nat} {xs : List Bool} {Q : D → Hq → Prop} (e : h[n]? = some (.lst (xs.map .bl))) (q : Q (.bl (xs.any id)) h) : OkBi .any [.ref n] h Q := ⟨okP_in (by simp only [biD, seq_get e, Option.bind_some, bolsOf_map]; rfl) q⟩
theorem ok_all {n : Nat} {xs : List Bool} {Q : D → Hq → Prop} (e : h[n]? = some (.lst (xs.map .bl))) (q : Q (.bl (xs.all id)) h) : OkBi .all [.ref n] h Q := ⟨okP_in (by simp only [biD, seq_get e, Option.bind_some, bolsOf_map]; rfl) q⟩
theorem ok_sort {n : Nat} {xs : List Int} {Q : D → Hq → Prop} (e : h[n]? = some (.lst (xs.map .int))) (q : ∀ h', h'[h.length]? = some (.lst ((xs.mergeSort (fun a b => decide (a ≤ b))).map .int)) → h <+: h' → Q (.ref h.length) h') : OkBi .sorted [.ref n] h Q := ⟨okP_in (by simp only [biD, seq_get e, Option.bind_some, intsOf_map]; rfl) (q _ new_get pfx_new)⟩
theorem flat_ints (xs : List Int) : (xs.map D.int).all flat = true := by rw [List.all_map]; simp [flat]
theorem any_ints (s : Int) (xs : List Int) : ((xs.map D.int).any fun z => flatEq z (.int s)) = decide (s ∈ xs) := by
  rw [List.any_map, Bool.eq_iff_iff, List.any_eq_true, decide_eq_true_eq]
  constructor
  · rintro ⟨x, hx, e⟩
    have : x = s := by simpa [flatEq] using e
    exact this ▸ hx
  · intro hs
    exact ⟨s, hs, by simp [flatEq]⟩
theorem ok_inL {n : Nat} {s : Int} {xs : List Int} {Q : Bool → Prop} (e : h[n]? = some (.lst (xs.map .int))) (q : Q (decide (s ∈ xs))) : OkCmp .isIn (.int s) (.ref n) h Q := ⟨ok_in (by simp only [cmpop, isInD, e, flat_ints, any_ints]; rfl) q⟩
theorem ok_ninL {n : Nat} {s : Int} {xs : List Int} {Q : Bool → Prop} (e : h[n]? = some (.lst (xs.map .int))) (q : Q (!decide (s ∈ xs))) : OkCmp .notIn (.int s) (.ref n) h Q := ⟨ok_in (by simp only [cmpop, isInD, e, flat_ints, any_ints]; rfl) q⟩
theorem ok_inT {s : Int} {xs : List Int} {Q : Bool → Prop} (q : Q (decide (s ∈ xs))) : OkCmp .isIn (.int s) (.tup (xs.map .int)) h Q := ⟨ok_in (by simp only [cmpop, isInD, flat_ints, any_ints]; rfl) q⟩
theorem ok_ninT {s : Int} {xs : List Int} {Q : Bool → Prop} (q : Q (!decide (s ∈ xs))) : OkCmp .notIn (.int s) (.tup (xs.map .int)) h Q := ⟨ok_in (by simp only [cmpop, isInD, flat_ints, any_ints]; rfl) q⟩
/-! ### ranges -/
theorem rgI_nat (a b : Nat) : rgI a b = (List.range' a (b - a)).map fun i => .int (i : Nat) := by
  unfold rgI
  rw [show ((b : Int) - (a : Int)).toNat = b - a by omega, List.range'_eq_map_range, List.map_map]
  refine congrArg (fun f => (List.range (b - a)).map f) (funext fun i => ?_)
  simp
theorem ok_rg1 {j : Int} {Q : List D → Prop} (h0 : 0 ≤ j) (h1 : j < 2 ^ 62) (q : Q ((List.range j.toNat).map fun i => .int (i : Nat))) : OkRange [.int j] Q := by
  refine ⟨ok_in (if_pos ⟨by omega, h1⟩) ?_⟩
  have e := rgI_nat 0 j.toNat
  rw [Int.toNat_of_nonneg h0] at e
  rw [show (0 : Int) = ((0 : Nat) : Int) from rfl, e, Nat.sub_zero, ← List.range_eq_range']
  exact q
theorem ok_rg2I {a b : Int} {Q : List D → Prop} (h : -(2 ^ 62) ≤ a ∧ a < 2 ^ 62 ∧ -(2 ^ 62) ≤ b ∧ b < 2 ^ 62) (q : Q (rgI a b)) : OkRange [.int a, .int b] Q := ⟨ok_in (if_pos h) q⟩
theorem nat62 {a : Nat} (h : a < 2 ^ 62) : -(2 ^ 62) ≤ (a : Int) ∧ (a : Int) < 2 ^ 62 := by
  have e : (2 : Int) ^ 62 = 4611686018427387904 := by decide
  have e' : (2 : Nat) ^ 62 = 4611686018427387904 := by decide
  rw [e'] at h
  rw [e]
  omega
theorem ok_rg2 {a b : Nat} {Q : List D → Prop} (h0 : a < 2 ^ 62) (h1 : b < 2 ^ 62) (q : Q ((List.range' a (b - a)).map fun i => .int (i : Nat))) : OkRange [.int a, .int b] Q :=
  ok_rg2I ⟨(nat62 h0).1, (nat62 h0).2, (nat62 h1).1, (nat62 h1).2⟩ (by rw [rgI_nat]; exact q)
theorem ok_rngT {xs ds : List D} {Q : D → Hq → Prop} (e : rangeD xs = some ds) (hl : ds.length ≤ line) (q : Q (.tup ds) h) : OkRng .tuple xs h Q := by
  refine ⟨?_⟩
  unfold rngD
  rw [e]
  exact okP_in (if_pos hl) q
theorem ok_rngT2 {a b : Nat} {Q : D → Hq → Prop} (h0 : a < 2 ^ 62) (h1 : b < 2 ^ 62) (hl : b - a ≤ line) (q : Q (.tup ((List.range' a (b - a)).map fun i => .int (i : Nat))) h) : OkRng .tuple [.int a, .int b] h Q := by
  obtain ⟨xs, e, hx⟩ := ok_rg2 (Q := fun xs => xs = (List.range' a (b - a)).map fun i => .int (i : Nat)) h0 h1 rfl
  subst hx
  exact ok_rngT e (by rw [List.length_map, List.length_range']; exact hl) q
end
/-! ### repr -/
mutual
def pyD : D → PyData
  | .non => .none | .bl b => .bool b | .int i => .int i | .str x => .str x | .tup ds => .tuple (pyDs ds) | .ref _ => .none
def pyDs : List D → List PyData
  | [] => []
  | d :: r => pyD d :: pyDs r
end
mutual
def noRef : D → Bool
  | .non => true | .bl _ => true | .int _ => true | .str _ => true | .tup ds => noRefs ds | .ref _ => false
def noRefs : List D → Bool
  | [] => true
  | d :: r => noRef d && noRefs r
end
mutual
theorem toPy_pure (h : Hq) : ∀ (n : Nat) (d : D), noRef d = true → (pyD d).depth < n → toPy h n d = some (pyD d)
  | 0, _, _, hd => absurd hd (Nat.not_lt_zero _)
  | n + 1, .non, _, _ => rfl
  | n + 1, .bl _, _, _ => rfl
  | n + 1, .int _, _, _ => rfl
  | n + 1, .str _, _, _ => rfl
  | n + 1, .ref _, hr, _ => by simp [noRef] at hr
  | n + 1, .tup ds, hr, hd => by
    have e := toPys_pure h n ds (by simpa [noRef] using hr) (by simp only [pyD, PyData.depth] at hd; omega)
    simp only [toPy, e, pyD]; rfl
theorem toPys_pure (h : Hq) : ∀ (n : Nat) (ds : List D), noRefs ds = true → PyData.depthAll (pyDs ds) < n → mapO (toPy h n) ds = some (pyDs ds)
  | _, [], _, _ => rfl
  | n, d :: r, hr, hd => by
    simp only [noRefs, Bool.and_eq_true] at hr
    simp only [pyDs, PyData.depthAll] at hd
    have e1 := toPy_pure h n d hr.1 (by omega)
    have e2 := toPys_pure h n r hr.2 (by omega)
    simp only [mapO, e1, e2, pyDs]
end
/-- what repr may show -/
structure Rep (d : D) : Prop where
  nr : noRef d = true
  lay : (pyD d).layable0 = true
  sh : (pyD d).showable = true
  short : (pyD d).intsShort 13 = true
theorem ok_repr {h : Hq} {d : D} {Q : D → Hq → Prop} (r : Rep d) (q : Q (.str (pyD d).shown) h) : OkBi .repr [d] h Q := by
  have hl := r.lay
  unfold PyData.layable0 at hl
  simp only [Bool.and_eq_true, decide_eq_true_eq] at hl
  have e : py h d = some (pyD d) := by
    unfold py
    rw [toPy_pure h deep d r.nr (by have := hl.1.2; show _ < 66; omega)]
    exact if_pos (SeqAt.shaped_of_layable r.lay)
  refine ⟨okP_in (d := .str (pyD d).shown) (h' := h) ?_ q⟩
  simp only [biD, e]
  exact if_pos ⟨r.sh, by have := PyData.shown_le_of_layable0 r.lay r.short; show _ ≤ 16777216; omega⟩
end Z
namespace Z
theorem ifB_d {p : Prop} [Decidable p] {A B : Prop} (a : p → A) (b : ¬ p → B) : ifB (decide p) A B := by rw [ifB_dec]; exact ⟨a, b⟩
end Z
namespace Z
section
variable {h : Hq}
abbrev dN (n : Nat) : D := .int (n : Int)
theorem enumD_get' : ∀ (ds : List D) (k i : Nat), (enumD k ds)[i]? = (ds[i]?).map fun d => D.tup [.int ((k + i : Nat) : Int), d]
  | [], _, _ => by simp [enumD]
  | d :: ds, k, 0 => by simp [enumD]
  | d :: ds, k, i + 1 => by
    have := enumD_get' ds (k + 1) i
    rw [show k + 1 + i = k + (i + 1) by omega] at this
    simpa [enumD] using this
theorem dN_map (xs : List Nat) : xs.map dN = (xs.map Int.ofNat).map D.int := by rw [List.map_map]; rfl
theorem mem_ofNat {s : Nat} {xs : List Nat} : (s : Int) ∈ xs.map Int.ofNat ↔ s ∈ xs := by
  rw [List.mem_map]
  constructor
  · rintro ⟨x, hx, e⟩
    have : x = s := by have : (x : Int) = s := e; omega
    exact this ▸ hx
  · exact fun hs => ⟨s, hs, rfl⟩
theorem ok_inN {n s : Nat} {xs : List Nat} {Q : Bool → Prop} (e : h[n]? = some (.lst (xs.map dN))) (q : Q (decide (s ∈ xs))) : OkCmp .isIn (dN s) (.ref n) h Q := by
  rw [dN_map] at e
  refine ok_inL e ?_
  rw [show decide ((s : Int) ∈ xs.map Int.ofNat) = decide (s ∈ xs) from decide_eq_decide.mpr mem_ofNat]
  exact q
theorem ok_ninN {n s : Nat} {xs : List Nat} {Q : Bool → Prop} (e : h[n]? = some (.lst (xs.map dN))) (q : Q (!decide (s ∈ xs))) : OkCmp .notIn (dN s) (.ref n) h Q := by
  rw [dN_map] at e
  refine ok_ninL e ?_
  rw [show decide ((s : Int) ∈ xs.map Int.ofNat) = decide (s ∈ xs) from decide_eq_decide.mpr mem_ofNat]
  exact q
theorem ok_inNT {s : Nat} {xs : List Nat} {Q : Bool → Prop} (q : Q (decide (s ∈ xs))) : OkCmp .isIn (dN s) (.tup (xs.map dN)) h Q := by
  rw [dN_map]
  refine ok_inT ?_
  rw [show decide ((s : Int) ∈ xs.map Int.ofNat) = decide (s ∈ xs) from decide_eq_decide.mpr mem_ofNat]
  exact q
theorem ok_ninNT {s : Nat} {xs : List Nat} {Q : Bool → Prop} (q : Q (!decide (s ∈ xs))) : OkCmp .notIn (dN s) (.tup (xs.map dN)) h Q := by
  rw [dN_map]
  refine ok_ninT ?_
  rw [show decide ((s : Int) ∈ xs.map Int.ofNat) = decide (s ∈ xs) from decide_eq_decide.mpr mem_ofNat]
  exact q
theorem sum_ofNat : ∀ xs : List Nat, (xs.map Int.ofNat).sum = (xs.sum : Nat)
  | [] => rfl
  | x :: r => by rw [List.map_cons, List.sum_cons, List.sum_cons, sum_ofNat r]; show (x : Int) + (r.sum : Nat) = ((x + r.sum : Nat) : Int); omega
theorem ok_sumN {n : Nat} {xs : List Nat} {Q : D → Hq → Prop} (e : h[n]? = some (.lst (xs.map dN))) (q : Q (dN xs.sum) h) : OkBi .sum [.ref n] h Q := by
  rw [dN_map] at e
  refine ok_sum e ?_
  rw [sum_ofNat]
  exact q
/-- the same numbers, ascending -/
def sortN (xs : List Nat) : List Nat := xs.mergeSort (fun a b => decide (a ≤ b))
theorem sortN_perm (xs : List Nat) : (sortN xs).Perm xs := List.mergeSort_perm _ _
theorem sortN_le (xs : List Nat) : (sortN xs).Pairwise (· ≤ ·) := by
  have := List.pairwise_mergeSort (le := fun a b : Nat => decide (a ≤ b)) (fun a b c h1 h2 => by simp at *; omega) (fun a b => by simp; omega) xs
  exact this.imp fun h => by simpa using h
theorem sortN_eq (xs : List Nat) : (sortN xs).map Int.ofNat = (xs.map Int.ofNat).mergeSort (fun a b => decide (a ≤ b)) := by
  refine sort_eq ((sortN_perm xs).map _) ?_
  rw [List.pairwise_map]
  exact (sortN_le xs).imp fun h => by show ((_ : Nat) : Int) ≤ ((_ : Nat) : Int); omega
theorem ok_sortN {n : Nat} {xs : List Nat} {Q : D → Hq → Prop} (e : h[n]? = some (.lst (xs.map dN))) (q : ∀ h', h'[h.length]? = some (.lst ((sortN xs).map dN)) → h <+: h' → Q (.ref h.length) h') : OkBi .sorted [.ref n] h Q := by
  rw [dN_map] at e
  refine ok_sort e ?_
  rw [← sortN_eq, ← dN_map]
  exact q
theorem ok_itL {n : Nat} {ds : List D} {Q : It → Prop} (e : h[n]? = some (.lst ds)) (q : Q (.list n)) : OkIt (.ref n) h Q := ⟨ok_in (by simp only [itD, seq_get e]; rfl) q⟩
theorem ok_itR {n : Nat} {ds : List D} {Q : It → Prop} (e : h[n]? = some (.ro ds)) (q : Q (.list n)) : OkIt (.ref n) h Q := ⟨ok_in (by simp only [itD, seq_ro e]; rfl) q⟩
theorem turn_list {n i : Nat} {ds : List D} (e : h[n]? = some (.lst ds)) : turn (.list n) i h = some ds[i]? := by simp only [turn, seq_get e]; rfl
theorem turn_enum {n i : Nat} {ds : List D} (e : h[n]? = some (.lst ds)) : turn (.enum n) i h = some (enumD 0 ds)[i]? := by
  simp only [turn, seq_get e, enumD_get', Nat.zero_add]; rfl
end
end Z
namespace Z
theorem ifB_t {A B : Prop} (a : A) : ifB true A B := by rw [ifB_true]; exact a
theorem ifB_f {A B : Prop} (b : B) : ifB false A B := by rw [ifB_false]; exact b
theorem mem_sum {x : Nat} : ∀ {l : List Nat}, x ∈ l → x ≤ l.sum
  | y :: r, h => by
    rcases List.mem_cons.mp h with rfl | h
    · rw [List.sum_cons]; omega
    · have := mem_sum h; rw [List.sum_cons]; omega
end Z
namespace Z
section
variable {h : Hq}
theorem ok_addI {i j : Int} {Q : D → Hq → Prop} (q : Q (.int (i + j)) h) : OkBin .add (.int i) (.int j) h Q := ⟨okP_in rfl q⟩
theorem ok_subI {i j : Int} {Q : D → Hq → Prop} (q : Q (.int (i - j)) h) : OkBin .sub (.int i) (.int j) h Q := ⟨okP_in rfl q⟩
theorem ok_ltI {i j : Int} {Q : Bool → Prop} (q : Q (decide (i < j))) : OkCmp .lt (.int i) (.int j) h Q := ⟨ok_in rfl q⟩
theorem ok_leI {i j : Int} {Q : Bool → Prop} (q : Q (decide (i ≤ j))) : OkCmp .le (.int i) (.int j) h Q := ⟨ok_in rfl q⟩
theorem ok_gtI {i j : Int} {Q : Bool → Prop} (q : Q (decide (j < i))) : OkCmp .gt (.int i) (.int j) h Q := ⟨ok_in rfl q⟩
theorem ok_geI {i j : Int} {Q : Bool → Prop} (q : Q (decide (j ≤ i))) : OkCmp .ge (.int i) (.int j) h Q := ⟨ok_in rfl q⟩
theorem ok_eqI {i j : Int} {Q : Bool → Prop} (q : Q (decide (i = j))) : OkCmp .eq (.int i) (.int j) h Q := ⟨ok_in rfl q⟩
theorem ok_neI {i j : Int} {Q : Bool → Prop} (q : Q (!decide (i = j))) : OkCmp .ne (.int i) (.int j) h Q := ⟨ok_in rfl q⟩
theorem ok_eqS {i j : PySem.Str} {Q : Bool → Prop} (q : Q (decide (i = j))) : OkCmp .eq (.str i) (.str j) h Q := ⟨ok_in rfl q⟩
theorem ok_neS {i j : PySem.Str} {Q : Bool → Prop} (q : Q (!decide (i = j))) : OkCmp .ne (.str i) (.str j) h Q := ⟨ok_in rfl q⟩
theorem ok_bl {b : Bool} {Q : Bool → Prop} (q : Q b) : OkBl (.bl b) Q := ⟨ok_in rfl q⟩
theorem ok_int {b : Int} {Q : Int → Prop} (q : Q b) : OkNum (.int b) Q := ⟨ok_in rfl q⟩
theorem ok_isi {x : D} {t : Ty} {c : Bool} {Q : Bool → Prop} (e : isiD x t h = some c) (q : Q c) : OkIsi x t h Q := ⟨ok_in e q⟩
theorem ok_trB {b : Bool} {Q : Bool → Prop} (q : Q b) : OkTr (.bl b) h Q := ⟨ok_in rfl q⟩
theorem ok_trI {i : Int} {Q : Bool → Prop} (q : Q (i != 0)) : OkTr (.int i) h Q := ⟨ok_in rfl q⟩
theorem ok_trT {ds : List D} {Q : Bool → Prop} (q : Q (!ds.isEmpty)) : OkTr (.tup ds) h Q := ⟨ok_in rfl q⟩
theorem ok_trL {n : Nat} {ds : List D} {Q : Bool → Prop} (e : h[n]? = some (.lst ds)) (q : Q (!ds.isEmpty)) : OkTr (.ref n) h Q := ⟨ok_in (by simp only [truth, e]) q⟩
theorem ok_itT {ds : List D} {Q : It → Prop} (q : Q (.items ds)) : OkIt (.tup ds) h Q := ⟨ok_in rfl q⟩
theorem ok_itS {z : PySem.Str} {Q : It → Prop} (q : Q (.items (strItems z))) : OkIt (.str z) h Q := ⟨ok_in rfl q⟩
theorem ok_enT {ds : List D} {Q : It → Prop} (q : Q (.items (enumD 0 ds))) : OkEn (.tup ds) h Q := ⟨ok_in rfl q⟩
theorem ok_enL {n : Nat} {ds : List D} {Q : It → Prop} (e : h[n]? = some (.lst ds)) (q : Q (.enum n)) : OkEn (.ref n) h Q := ⟨ok_in (by simp only [enW, seq_get e]; rfl) q⟩
theorem ok_rvT {ds : List D} {Q : It → Prop} (q : Q (.items ds.reverse)) : OkRv (.tup ds) h Q := ⟨ok_in rfl q⟩
theorem ok_abs {i : Int} {Q : D → Hq → Prop} (q : Q (.int i.natAbs) h) : OkBi .abs [.int i] h Q := by
  refine ⟨okP_in (d := .int i.natAbs) (h' := h) ?_ q⟩
  show some (D.int (if i < 0 then -i else i), h) = _
  congr 3
  split <;> omega
theorem ok_intI {i : Int} {Q : D → Hq → Prop} (q : Q (.int i) h) : OkBi .int [.int i] h Q := ⟨okP_in rfl q⟩
theorem ok_intB {b : Bool} {Q : D → Hq → Prop} (q : Q (.int (if b then 1 else 0)) h) : OkBi .int [.bl b] h Q := ⟨okP_in rfl q⟩
theorem ok_mx2 {i j : Int} {Q : D → Hq → Prop} (q : Q (.int (max i j)) h) : OkBi .mx [.int i, .int j] h Q := by
  refine ⟨okP_in (d := .int (max i j)) (h' := h) ?_ q⟩
  show some (D.int (if j > i then j else i), h) = _
  congr 3
  split <;> omega
theorem ok_mn2 {i j : Int} {Q : D → Hq → Prop} (q : Q (.int (min i j)) h) : OkBi .mn [.int i, .int j] h Q := by
  refine ⟨okP_in (d := .int (min i j)) (h' := h) ?_ q⟩
  show some (D.int (if j < i then j else i), h) = _
  congr 3
  split <;> omega
end
end Z
namespace Z
theorem ifB_nd {p : Prop} [Decidable p] {A B : Prop} (a : ¬ p → A) (b : p → B) : ifB (!decide p) A B := by rw [ifB_not]; exact ifB_d b a
end Z
set_option maxHeartbeats 1000000
/-! ZY: what repr may show: small ints in tuples. -/
namespace Z
open PySem
mutual
/-- ints below 10^12, bools, None, tuples of such -/
def smD : D → Bool
  | .non => true | .bl _ => true | .int i => decide (i.natAbs < 10 ^ 12) | .str _ => false | .tup ds => smDs ds | .ref _ => false
def smDs : List D → Bool
  | [] => true
  | d :: r => smD d && smDs r
end
mutual
def wtD : D → Nat
  | .non => 0 | .bl _ => 0 | .int _ => 40 | .str _ => 0 | .tup ds => wtDs ds | .ref _ => 0
def wtDs : List D → Nat
  | [] => 0
  | d :: r => wtD d + 1 + wtDs r
end
mutual
def dpD : D → Nat
  | .non => 0 | .bl _ => 0 | .int _ => 0 | .str _ => 0 | .tup ds => dpDs ds + 1 | .ref _ => 0
def dpDs : List D → Nat
  | [] => 0
  | d :: r => max (dpD d) (dpDs r)
end
theorem log_small {n : Nat} (h : n < 10 ^ 12) (h0 : n ≠ 0) : n.log2 < 40 := (Nat.log2_lt h0).mpr (Nat.lt_of_lt_of_le h (by decide))
mutual
theorem sm_facts : ∀ d : D, smD d = true → noRef d = true ∧ (pyD d).canLay0 = true ∧ (pyD d).showable = true ∧ (pyD d).intsShort 13 = true ∧ (pyD d).weight ≤ wtD d ∧ (pyD d).depth ≤ dpD d
  | .non, _ => ⟨rfl, by simp [pyD, PyData.canLay0], by simp [pyD, PyData.showable], by simp [pyD, PyData.intsShort], by simp [pyD, PyData.weight, wtD], by simp [pyD, PyData.depth, dpD]⟩
  | .bl _, _ => ⟨rfl, by simp [pyD, PyData.canLay0], by simp [pyD, PyData.showable], by simp [pyD, PyData.intsShort], by simp [pyD, PyData.weight, wtD], by simp [pyD, PyData.depth, dpD]⟩
  | .int i, h => by
    have h' : i.natAbs < 10 ^ 12 := by simpa only [smD, decide_eq_true_eq] using h
    refine ⟨rfl, by simp [pyD, PyData.canLay0], ?_, ?_, ?_, by simp [pyD, PyData.depth, dpD]⟩
    · simp only [pyD, PyData.showable, decide_eq_true_eq]
      by_cases h0 : i.natAbs = 0
      · rw [h0]; decide
      · have := log_small h' h0; omega
    · simp only [pyD, PyData.intsShort, decide_eq_true_eq]
      exact PyData.shown_int_le h'
    · simp only [pyD, PyData.weight, wtD]
      split
      · omega
      · rename_i hne
        have h0 : i.natAbs ≠ 0 := by
          intro e
          have : i = 0 := Int.natAbs_eq_zero.mp e
          simp [this] at hne
        have := log_small h' h0
        omega
  | .str _, h => by simp [smD] at h
  | .ref _, h => by simp [smD] at h
  | .tup ds, h => by
    obtain ⟨a, b, c, d, e, f⟩ := sms_facts ds (by simpa only [smD] using h)
    refine ⟨by simpa only [noRef] using a, by simpa only [pyD, PyData.canLay0] using b, by simpa only [pyD, PyData.showable] using c, by simpa only [pyD, PyData.intsShort] using d, by simpa only [pyD, PyData.weight, wtD] using e, ?_⟩
    simp only [pyD, PyData.depth, dpD]
    omega
theorem sms_facts : ∀ ds : List D, smDs ds = true → noRefs ds = true ∧ PyData.canLayAll0 (pyDs ds) = true ∧ PyData.showableAll (pyDs ds) = true ∧ PyData.intsShortAll 13 (pyDs ds) = true ∧ PyData.weightAll (pyDs ds) ≤ wtDs ds ∧ PyData.depthAll (pyDs ds) ≤ dpDs ds
  | [], _ => ⟨rfl, rfl, rfl, rfl, Nat.le_refl _, Nat.le_refl _⟩
  | d :: r, h => by
    have h' : smD d = true ∧ smDs r = true := by simpa only [smDs, Bool.and_eq_true] using h
    obtain ⟨a, b, c, e, f, g⟩ := sm_facts d h'.1
    obtain ⟨a2, b2, c2, e2, f2, g2⟩ := sms_facts r h'.2
    simp only [noRefs, pyDs, PyData.canLayAll0, PyData.showableAll, PyData.intsShortAll, PyData.weightAll, PyData.depthAll, wtDs, dpDs, Bool.and_eq_true]
    exact ⟨⟨a, a2⟩, ⟨b, b2⟩, ⟨c, c2⟩, ⟨e, e2⟩, by omega, by omega⟩
end
theorem rep_sm {d : D} (h : smD d = true) (hw : wtD d ≤ 2 ^ 20) (hd : dpD d ≤ 64) : Rep d := by
  obtain ⟨a, b, c, e, f, g⟩ := sm_facts d h
  refine ⟨a, ?_, c, e⟩
  unfold PyData.layable0
  simp only [Bool.and_eq_true, decide_eq_true_eq]
  exact ⟨⟨b, by omega⟩, by omega⟩
theorem smDs_all : ∀ {ds : List D}, (∀ d ∈ ds, smD d = true) → smDs ds = true
  | [], _ => rfl
  | d :: r, h => by
    simp only [smDs, Bool.and_eq_true]
    exact ⟨h d List.mem_cons_self, smDs_all fun x hx => h x (List.mem_cons_of_mem _ hx)⟩
theorem dpDs_all {n : Nat} : ∀ {ds : List D}, (∀ d ∈ ds, dpD d ≤ n) → dpDs ds ≤ n
  | [], _ => Nat.zero_le _
  | d :: r, h => by
    simp only [dpDs]
    have h1 := h d List.mem_cons_self
    have h2 := dpDs_all fun x hx => h x (List.mem_cons_of_mem _ hx)
    omega
theorem wtDs_all {n : Nat} : ∀ {ds : List D}, (∀ d ∈ ds, wtD d ≤ n) → wtDs ds ≤ (n + 1) * ds.length
  | [], _ => Nat.zero_le _
  | d :: r, h => by
    simp only [wtDs, List.length_cons]
    have h1 := h d List.mem_cons_self
    have h2 := wtDs_all fun x hx => h x (List.mem_cons_of_mem _ hx)
    rw [Nat.mul_succ]
    omega
theorem sm_int {i : Int} (h : i.natAbs < 10 ^ 12) : smD (.int i) = true := by simp only [smD, decide_eq_true_eq]; exact h
theorem rep_int {i : Int} (h : i.natAbs < 10 ^ 12) : Rep (.int i) := rep_sm (sm_int h) (by simp only [wtD]; decide) (by simp only [dpD]; decide)
/-- a tuple of small numbers -/
theorem sm_nats {xs : List Nat} (h : ∀ x ∈ xs, x < 10 ^ 12) : smD (.tup (xs.map dN)) = true := by
  simp only [smD]
  refine smDs_all fun d hd => ?_
  obtain ⟨x, hx, rfl⟩ := List.mem_map.mp hd
  exact sm_int (by have := h x hx; rw [Int.natAbs_natCast]; exact this)
theorem wt_nats (xs : List Nat) : wtD (.tup (xs.map dN)) ≤ 41 * xs.length := by
  simp only [wtD]
  have := wtDs_all (n := 40) (ds := xs.map dN) fun d hd => by
    obtain ⟨x, _, rfl⟩ := List.mem_map.mp hd
    exact Nat.le_refl _
  rwa [List.length_map] at this
theorem dp_nats (xs : List Nat) : dpD (.tup (xs.map dN)) ≤ 1 := by
  simp only [dpD]
  have := dpDs_all (n := 0) (ds := xs.map dN) fun d hd => by
    obtain ⟨x, _, rfl⟩ := List.mem_map.mp hd
    exact Nat.le_refl _
  omega
theorem rep_nats {xs : List Nat} (h : ∀ x ∈ xs, x < 10 ^ 12) (hl : xs.length ≤ 20000) : Rep (.tup (xs.map dN)) :=
  rep_sm (sm_nats h) (Nat.le_trans (wt_nats xs) (by omega)) (Nat.le_trans (dp_nats xs) (by decide))
end Z
set_option maxHeartbeats 4000000
namespace Lw
open PySem Z
def topS (i : Nat) : Stmt := PySem.Challenge.pw_renamesteps_k02_homes_and_enclosing_scop.main.body.getD i (.Pass ⟨0, 0, 0, 0⟩)
/-- is_integer -/
def b0 : List Z.S := [(.ret (.and (.isi (.var 0) .int) (.and (.not (.isi (.var 0) .bool)) (.one (.chain .le .le (.var 1) (.var 0) (.var 2))))))]
def f0 : Z.Fn := ⟨"is_integer", ["value", "low", "high"], ["value", "low", "high"], topS 6, b0⟩
/-- outward -/
def b1 : List Z.S := [(.asg (.name 2) (.lst [])),
  (.whl (.cmp .ne (.var 1) (.glb "NO_PARENT")) [(.expr (.mt .append (.var 2) [(.var 1)])),
  (.asg (.name 1) (.ix (.ix (.var 0) (.var 1)) (.cst (.int 0))))]),
  (.ret (.var 2))]
def f1 : Z.Fn := ⟨"outward", ["program", "scope", "found"], ["program", "scope"], topS 7, b1⟩
/-- homes_of -/
def b2 : List Z.S := [(.asg (.name 1) (.lst [])),
  (.for_ (.tup [(.name 2), (.tup [(.name 3), (.name 4), (.name 5)])]) (.enum (.var 0)) [(.expr (.mt .extend (.var 1) [(.op .mul (.lst [(.var 2)]) (.var 4))]))]),
  (.ret (.var 1))]
def f2 : Z.Fn := ⟨"homes_of", ["program", "found", "scope", "parent", "count", "uses"], ["program"], topS 8, b2⟩
/-- check_declaration -/
def b3 : List Z.S := [(.iff (.not (.call 0 [(.var 1), (.cst (.int 0)), (.op .sub (.bi .len [(.call 2 [(.var 0)])]) (.cst (.int 1)))])) [.bad] [])]
def f3 : Z.Fn := ⟨"check_declaration", ["program", "declaration"], ["program", "declaration"], topS 9, b3⟩
/-- check_scope -/
def b4 : List Z.S := [(.iff (.not (.call 0 [(.var 1), (.cst (.int 0)), (.op .sub (.bi .len [(.var 0)]) (.cst (.int 1)))])) [.bad] [])]
def f4 : Z.Fn := ⟨"check_scope", ["program", "scope"], ["program", "scope"], topS 10, b4⟩
/-- home_of -/
def b5 : List Z.S := [(.expr (.call 3 [(.var 0), (.var 1)])),
  (.ret (.ix (.call 2 [(.var 0)]) (.var 1)))]
def f5 : Z.Fn := ⟨"home_of", ["program", "declaration"], ["program", "declaration"], topS 11, b5⟩
/-- declarations_of -/
def b6 : List Z.S := [(.expr (.call 4 [(.var 0), (.var 1)])),
  (.ret (.bi .tuple [(.lc [2, 3] (.enum (.call 2 [(.var 0)])) (.tup [(.name 2), (.name 3)]) (some (.cmp .eq (.var 3) (.var 1))) (.var 2))]))]
def f6 : Z.Fn := ⟨"declarations_of", ["program", "scope", "declaration", "home"], ["program", "scope"], topS 12, b6⟩
/-- enclosing_scopes -/
def b7 : List Z.S := [(.expr (.call 4 [(.var 0), (.var 1)])),
  (.ret (.bi .tuple [(.call 1 [(.var 0), (.var 1)])]))]
def f7 : Z.Fn := ⟨"enclosing_scopes", ["program", "scope"], ["program", "scope"], topS 13, b7⟩
/-- inner_scopes -/
def b8 : List Z.S := [(.expr (.call 4 [(.var 0), (.var 1)])),
  (.ret (.bi .tuple [(.lc [2] (.range [(.bi .len [(.var 0)])]) (.name 2) (some (.cmp .isIn (.var 1) (.call 1 [(.var 0), (.var 2)]))) (.var 2))]))]
def f8 : Z.Fn := ⟨"inner_scopes", ["program", "scope", "inner"], ["program", "scope"], topS 14, b8⟩
/-- height_of -/
def b9 : List Z.S := [(.ret (.bi .mx [(.lc [1] (.range [(.bi .len [(.var 0)])]) (.name 1) none (.bi .len [(.call 1 [(.var 0), (.var 1)])]))]))]
def f9 : Z.Fn := ⟨"height_of", ["program", "scope"], ["program"], topS 15, b9⟩
/-- _law_hand -/
def b10 : List Z.S := [(.asg (.name 2) (.ite (.cmp .lt (.var 1) (.bi .len [(.var 0)])) (.ix (.var 0) (.var 1)) (.op .add (.op .mul (.cst (.int 7)) (.var 1)) (.cst (.int 3))))),
  (.asg (.name 3) (.op .mul (.op .mod (.bi .abs [(.var 2)]) (.op .mul (.op .mul (.op .mul (.op .pow (.cst (.int 10)) (.cst (.int 60))) (.op .pow (.cst (.int 10)) (.cst (.int 60)))) (.op .pow (.cst (.int 10)) (.cst (.int 60)))) (.op .pow (.cst (.int 10)) (.cst (.int 60))))) (.bi .int [(.cmp .ge (.bi .abs [(.var 2)]) (.op .pow (.cst (.int 10)) (.cst (.int 18))))]))),
  (.ret (.lst [(.var 3), (.op .mod (.op .mul (.op .add (.op .add (.op .mod (.var 2) (.cst (.int 2305843009213693951))) (.op .mul (.op .mul (.cst (.int 104729)) (.var 1)) (.var 1))) (.cst (.int 29))) (.cst (.int 48271))) (.cst (.int 2305843009213693921))), (.cst (.int 0))]))]
def f10 : Z.Fn := ⟨"_law_hand", ["_law_script", "_law_k", "_law_cell", "_law_great"], ["_law_script", "_law_k"], topS 17, b10⟩
/-- _law_take -/
def b11 : List Z.S := [(.iff (.cmp .gt (.ix (.var 0) (.cst (.int 0))) (.cst (.int 0))) [(.asg (.name 2) (.op .mod (.ix (.var 0) (.cst (.int 0))) (.var 1))),
  (.asg (.sub (.var 0) (.cst (.int 0))) (.op .fdiv (.ix (.var 0) (.cst (.int 0))) (.var 1))),
  (.ret (.var 2))] []),
  (.asg (.name 3) (.op .add (.ix (.var 0) (.cst (.int 2))) (.cst (.int 1)))),
  (.asg (.sub (.var 0) (.cst (.int 2))) (.var 3)),
  (.asg (.name 4) (.ix (.lst [(.cst (.int 2147483647)), (.cst (.int 2147483629)), (.cst (.int 2147483587)), (.cst (.int 2147483579)), (.cst (.int 2147483563)), (.cst (.int 2147483549))]) (.op .mod (.var 3) (.cst (.int 6))))),
  (.asg (.name 5) (.op .mod (.op .pow (.op .add (.op .add (.ix (.var 0) (.cst (.int 1))) (.op .mul (.op .mul (.cst (.int 65537)) (.var 3)) (.var 3))) (.op .mul (.cst (.int 31)) (.var 3))) (.cst (.int 3))) (.var 4))),
  (.ret (.op .mod (.op .fdiv (.op .mod (.op .mul (.var 5) (.op .add (.op .mod (.var 5) (.cst (.int 10007))) (.op .mul (.cst (.int 13)) (.var 3)))) (.cst (.int 2305843009213693907))) (.cst (.int 97))) (.var 1)))]
def f11 : Z.Fn := ⟨"_law_take", ["_law_hand_here", "_law_many", "_law_digit", "_law_turn", "_law_prime", "_law_mixed"], ["_law_hand_here", "_law_many"], topS 18, b11⟩
/-- _law_pick -/
def b12 : List Z.S := [(.ret (.ix (.var 1) (.call 11 [(.var 0), (.bi .len [(.var 1)])])))]
def f12 : Z.Fn := ⟨"_law_pick", ["_law_hand_here", "_law_items"], ["_law_hand_here", "_law_items"], topS 19, b12⟩
/-- _law_program -/
def b13 : List Z.S := [(.asg (.tup [(.name 4), (.name 5)]) (.tup [(.lst [(.neg (.cst (.int 1)))]), (.op .add (.cst (.int 1)) (.call 11 [(.var 0), (.var 1)]))])),
  (.whl (.cmp .lt (.bi .len [(.var 4)]) (.var 5)) [(.par [6, 7] [(.lst []), (.op .sub (.bi .len [(.var 4)]) (.cst (.int 1)))]),
  (.whl (.cmp .ge (.var 7) (.cst (.int 0))) [(.expr (.mt .append (.var 6) [(.var 7)])),
  (.asg (.name 7) (.ix (.var 4) (.var 7)))]),
  (.expr (.mt .append (.var 4) [(.call 12 [(.var 0), (.lst [(.ix (.var 6) (.cst (.int 0))), (.call 12 [(.var 0), (.var 6)])])])]))]),
  (.asg (.name 8) (.op .mul (.lst [(.cst (.int 0))]) (.var 5))),
  (.for_ (.name 9) (.range [(.call 11 [(.var 0), (.op .add (.var 2) (.cst (.int 1)))])]) [(.asg (.name 10) (.call 11 [(.var 0), (.var 5)])),
  (.asg (.sub (.var 8) (.var 10)) (.op .add (.ix (.var 8) (.var 10)) (.cst (.int 1))))]),
  (.asg (.name 11) (.lc [10] (.of (.var 4)) (.name 10) none (.lst []))),
  (.for_ (.name 9) (.range [(.op .mul (.call 11 [(.var 0), (.op .add (.var 3) (.cst (.int 1)))]) (.bi .int [(.cmp .gt (.bi .sum [(.var 8)]) (.cst (.int 0)))]))]) [(.par [12, 10] [(.call 11 [(.var 0), (.bi .sum [(.var 8)])]), (.call 11 [(.var 0), (.var 5)])]),
  (.iff (.and (.cmp .isIn (.call 14 [(.var 8), (.var 12)]) (.call 15 [(.var 4), (.var 10)])) (.one (.cmp .notIn (.var 12) (.ix (.var 11) (.var 10))))) [(.expr (.mt .append (.ix (.var 11) (.var 10)) [(.var 12)]))] [])]),
  (.ret (.bi .tuple [(.lc [13] (.range [(.var 5)]) (.name 13) none (.tup [(.ix (.var 4) (.var 13)), (.ix (.var 8) (.var 13)), (.bi .tuple [(.bi .sorted [(.ix (.var 11) (.var 13))])])]))]))]
def f13 : Z.Fn := ⟨"_law_program", ["_law_hand_here", "_law_most_scopes", "_law_most_declared", "_law_most_uses", "_law_parents", "_law_many", "_law_ways", "_law_at", "_law_counts", "_law_turn", "_law_scope", "_law_uses", "_law_declaration", "_law_nth"], ["_law_hand_here", "_law_most_scopes", "_law_most_declared", "_law_most_uses"], topS 20, b13⟩
/-- _law_home -/
def b14 : List Z.S := [(.asg (.name 2) (.cst (.int 0))),
  (.whl (.cmp .ge (.var 1) (.ix (.var 0) (.var 2))) [(.par [1, 2] [(.op .sub (.var 1) (.ix (.var 0) (.var 2))), (.op .add (.var 2) (.cst (.int 1)))])]),
  (.ret (.var 2))]
def f14 : Z.Fn := ⟨"_law_home", ["_law_counts", "_law_declaration", "_law_scope"], ["_law_counts", "_law_declaration"], topS 21, b14⟩
/-- _law_outward -/
def b15 : List Z.S := [(.asg (.name 2) (.lst [])),
  (.whl (.cmp .ge (.var 1) (.cst (.int 0))) [(.expr (.mt .append (.var 2) [(.var 1)])),
  (.asg (.name 1) (.ix (.var 0) (.var 1)))]),
  (.ret (.var 2))]
def f15 : Z.Fn := ⟨"_law_outward", ["_law_parents", "_law_scope", "_law_found"], ["_law_parents", "_law_scope"], topS 22, b15⟩
/-- _law_span -/
def b16 : List Z.S := [(.asg (.name 2) (.call 17 [(.var 0)])),
  (.asg (.name 3) (.op .add (.var 1) (.cst (.int 1)))),
  (.whl (.and (.cmp .lt (.var 3) (.bi .len [(.var 0)])) (.one (.cmp .gt (.ix (.var 2) (.var 3)) (.ix (.var 2) (.var 1))))) [(.asg (.name 3) (.op .add (.var 3) (.cst (.int 1))))]),
  (.ret (.var 3))]
def f16 : Z.Fn := ⟨"_law_span", ["_law_program_here", "_law_scope", "_law_depths_here", "_law_end"], ["_law_program_here", "_law_scope"], topS 23, b16⟩
/-- _law_depths -/
def b17 : List Z.S := [(.asg (.name 1) (.lst [])),
  (.for_ (.tup [(.name 2), (.name 3), (.name 4)]) (.of (.var 0)) [(.expr (.mt .append (.var 1) [(.ite (.cmp .lt (.var 2) (.cst (.int 0))) (.cst (.int 0)) (.op .add (.ix (.var 1) (.var 2)) (.cst (.int 1))))]))]),
  (.ret (.var 1))]
def f17 : Z.Fn := ⟨"_law_depths", ["_law_program_here", "_law_found", "_law_parent", "_law_count", "_law_uses"], ["_law_program_here"], topS 24, b17⟩
/-- _law_right -/
def b18 : List Z.S := [(.par [1, 2, 3] [(.bi .repr [(.var 0)]), (.call 17 [(.var 0)]), (.cst (.int 0))]),
  (.for_ (.tup [(.name 4), (.tup [(.name 5), (.name 6), (.name 7)])]) (.enum (.var 0)) [(.asg (.name 8) (.rng .tuple [(.var 3), (.op .add (.var 3) (.var 6))])),
  (.iff (.cmp .ne (.bi .repr [(.call 6 [(.var 0), (.var 4)])]) (.bi .repr [(.var 8)])) [(.ret (.cst (.bl false)))] []),
  (.iff (.bi .any [(.lc [10] (.of (.var 8)) (.name 10) none (.cmp .ne (.call 5 [(.var 0), (.var 10)]) (.var 4)))]) [(.ret (.cst (.bl false)))] []),
  (.asg (.name 3) (.op .add (.var 3) (.var 6))),
  (.asg (.name 9) (.op .add (.tup [(.var 4)]) (.ite (.cmp .ge (.var 5) (.cst (.int 0))) (.call 7 [(.var 0), (.var 5)]) (.tup [])))),
  (.iff (.or (.cmp .ne (.bi .repr [(.call 7 [(.var 0), (.var 4)])]) (.bi .repr [(.var 9)])) (.one (.cmp .ne (.bi .len [(.var 9)]) (.op .add (.ix (.var 2) (.var 4)) (.cst (.int 1)))))) [(.ret (.cst (.bl false)))] []),
  (.iff (.cmp .ne (.bi .repr [(.call 8 [(.var 0), (.var 4)])]) (.bi .repr [(.rng .tuple [(.var 4), (.call 16 [(.var 0), (.var 4)])])])) [(.ret (.cst (.bl false)))] [])]),
  (.ret (.and (.cmp .eq (.bi .repr [(.call 9 [(.var 0)])]) (.bi .repr [(.op .add (.bi .mx [(.var 2)]) (.cst (.int 1)))])) (.one (.cmp .eq (.bi .repr [(.var 0)]) (.var 1)))))]
def f18 : Z.Fn := ⟨"_law_right", ["_law_program_here", "_law_held", "_law_depths_here", "_law_before", "_law_scope", "_law_parent", "_law_count", "_law_uses", "_law_own", "_law_due", "_law_one"], ["_law_program_here"], topS 25, b18⟩
/-- law -/
def b19 : List Z.S := [(.iff (.not (.call 18 [(.tup [(.tup [(.neg (.cst (.int 1))), (.cst (.int 0)), (.tup [])])])])) [(.ret (.cst (.bl false)))] []),
  (.for_ (.name 1) (.range [(.bi .mx [(.cst (.int 1)), (.bi .mn [(.cst (.int 3)), (.bi .len [(.var 0)])])])]) [(.asg (.name 2) (.call 10 [(.var 0), (.var 1)])),
  (.asg (.name 3) (.op .add (.cst (.int 1)) (.call 11 [(.var 2), (.cst (.int 40))]))),
  (.asg (.name 4) (.bi .tuple [(.lc [6] (.range [(.var 3)]) (.name 6) none (.tup [(.op .sub (.var 6) (.cst (.int 1))), (.call 11 [(.var 2), (.cst (.int 2))]), (.tup [])]))])),
  (.asg (.name 5) (.lst [(.var 4), (.call 13 [(.var 2), (.cst (.int 40)), (.cst (.int 60)), (.cst (.int 40))]), (.call 13 [(.var 2), (.cst (.int 6)), (.cst (.int 8)), (.cst (.int 8))]), (.call 13 [(.var 2), (.cst (.int 12)), (.cst (.int 20)), (.cst (.int 5))])])),
  (.iff (.not (.bi .all [(.lc [7] (.of (.var 5)) (.name 7) none (.call 18 [(.var 7)]))])) [(.ret (.cst (.bl false)))] [])]),
  (.ret (.cst (.bl true)))]
def f19 : Z.Fn := ⟨"law", ["_law_script", "_law_k", "_law_hand_here", "_law_many", "_law_chain", "_law_some", "_law_nth", "_law_program_here"], ["_law_script"], topS 26, b19⟩
def tb : Z.Tbl := ⟨[f0, f1, f2, f3, f4, f5, f6, f7, f8, f9, f10, f11, f12, f13, f14, f15, f16, f17, f18, f19], [("NO_PARENT", .int (-1))]⟩
end Lw
set_option maxHeartbeats 4000000
namespace Lw
open PySem Z
theorem t0 : Z.FnT tb f0 := ⟨⟨rfl, rfl, rfl, by decide +kernel, rfl, by decide +kernel, by decide +kernel⟩, by kernel_rfl⟩
theorem t1 : Z.FnT tb f1 := ⟨⟨rfl, rfl, rfl, by decide +kernel, rfl, by decide +kernel, by decide +kernel⟩, by kernel_rfl⟩
theorem t2 : Z.FnT tb f2 := ⟨⟨rfl, rfl, rfl, by decide +kernel, rfl, by decide +kernel, by decide +kernel⟩, by kernel_rfl⟩
theorem t3 : Z.FnT tb f3 := ⟨⟨rfl, rfl, rfl, by decide +kernel, rfl, by decide +kernel, by decide +kernel⟩, by kernel_rfl⟩
theorem t4 : Z.FnT tb f4 := ⟨⟨rfl, rfl, rfl, by decide +kernel, rfl, by decide +kernel, by decide +kernel⟩, by kernel_rfl⟩
theorem t5 : Z.FnT tb f5 := ⟨⟨rfl, rfl, rfl, by decide +kernel, rfl, by decide +kernel, by decide +kernel⟩, by kernel_rfl⟩
theorem t6 : Z.FnT tb f6 := ⟨⟨rfl, rfl, rfl, by decide +kernel, rfl, by decide +kernel, by decide +kernel⟩, by kernel_rfl⟩
theorem t7 : Z.FnT tb f7 := ⟨⟨rfl, rfl, rfl, by decide +kernel, rfl, by decide +kernel, by decide +kernel⟩, by kernel_rfl⟩
theorem t8 : Z.FnT tb f8 := ⟨⟨rfl, rfl, rfl, by decide +kernel, rfl, by decide +kernel, by decide +kernel⟩, by kernel_rfl⟩
theorem t9 : Z.FnT tb f9 := ⟨⟨rfl, rfl, rfl, by decide +kernel, rfl, by decide +kernel, by decide +kernel⟩, by kernel_rfl⟩
theorem t10 : Z.FnT tb f10 := ⟨⟨rfl, rfl, rfl, by decide +kernel, rfl, by decide +kernel, by decide +kernel⟩, by kernel_rfl⟩
theorem t11 : Z.FnT tb f11 := ⟨⟨rfl, rfl, rfl, by decide +kernel, rfl, by decide +kernel, by decide +kernel⟩, by kernel_rfl⟩
theorem t12 : Z.FnT tb f12 := ⟨⟨rfl, rfl, rfl, by decide +kernel, rfl, by decide +kernel, by decide +kernel⟩, by kernel_rfl⟩
theorem t13 : Z.FnT tb f13 := ⟨⟨rfl, rfl, rfl, by decide +kernel, rfl, by decide +kernel, by decide +kernel⟩, by kernel_rfl⟩
theorem t14 : Z.FnT tb f14 := ⟨⟨rfl, rfl, rfl, by decide +kernel, rfl, by decide +kernel, by decide +kernel⟩, by kernel_rfl⟩
theorem t15 : Z.FnT tb f15 := ⟨⟨rfl, rfl, rfl, by decide +kernel, rfl, by decide +kernel, by decide +kernel⟩, by kernel_rfl⟩
theorem t16 : Z.FnT tb f16 := ⟨⟨rfl, rfl, rfl, by decide +kernel, rfl, by decide +kernel, by decide +kernel⟩, by kernel_rfl⟩
theorem t17 : Z.FnT tb f17 := ⟨⟨rfl, rfl, rfl, by decide +kernel, rfl, by decide +kernel, by decide +kernel⟩, by kernel_rfl⟩
theorem t18 : Z.FnT tb f18 := ⟨⟨rfl, rfl, rfl, by decide +kernel, rfl, by decide +kernel, by decide +kernel⟩, by kernel_rfl⟩
theorem t19 : Z.FnT tb f19 := ⟨⟨rfl, rfl, rfl, by decide +kernel, rfl, by decide +kernel, by decide +kernel⟩, by kernel_rfl⟩
theorem tok : Z.AllT tb tb.fns := ⟨t0, t1, t2, t3, t4, t5, t6, t7, t8, t9, t10, t11, t12, t13, t14, t15, t16, t17, t18, t19, trivial⟩
end Lw
set_option maxHeartbeats 1000000
namespace Lw
open PySem Z Mp
local macro_rules | `(tactic| infer_instance) => `(tactic| first
  | assumption
  | (refine Z.pfx_get (by assumption) ?_; first | assumption | (refine Z.pfx_get (by assumption) ?_; first | assumption | (refine Z.pfx_get (by assumption) ?_; assumption)))
  | (refine Z.Hs.get (by assumption) (by omega) ?_; first | assumption | (refine Z.pfx_get (by assumption) ?_; assumption) | (refine Z.Hs.get (by assumption) (by omega) ?_; assumption)))
local macro_rules | `(tactic| contradiction) => `(tactic| first
  | refine Z.wB_cons ?_ | refine Z.wB_nil ?_ | refine Z.onR_nx ?_ | refine Z.onR_ret ?_ | refine Z.onR_brk ?_ | refine Z.onR_cont ?_ | refine Z.onL_nx ?_ | refine Z.onL_ret ?_ | refine Z.onL_brk ?_ | refine Z.onL_cont ?_ | refine Z.onC_nx ?_ | refine Z.onC_ret ?_
  | refine Z.wS_asg ?_ | refine Z.wS_par2 ?_ | refine Z.wS_par3 ?_ | refine Z.wS_add rfl ?_ | refine Z.wS_subt rfl ?_ | refine Z.wS_expr ?_ | refine Z.wS_ret ?_ | refine Z.wS_retN ?_ | refine Z.wS_iff ?_ | refine Z.wS_whl ?_ | refine Z.wS_for ?_ | refine Z.wS_brk ?_ | refine Z.wS_cont ?_ | refine Z.wS_pass ?_
  | refine Z.wE_cst ?_ | refine Z.wE_var rfl ?_ | refine Z.wE_glb rfl ?_ | refine Z.wE_tup ?_ | refine Z.wE_lst' ?_ | refine Z.wE_dnew ?_ | refine Z.wE_op ?_ | refine Z.wE_neg ?_ | refine Z.wE_cmp ?_ | refine Z.wE_chain ?_ | refine Z.wE_one ?_ | refine Z.wE_and ?_ | refine Z.wE_or ?_ | refine Z.wE_not ?_ | refine Z.wE_ite ?_ | refine Z.wE_ix ?_
  | refine Z.wE_slc00 ?_ | refine Z.wE_slc10 ?_ | refine Z.wE_slc01 ?_ | refine Z.wE_slc11 ?_ | refine Z.wE_call ?_ | refine Z.wE_bi ?_ | refine Z.wE_isi ?_ | refine Z.wE_mt ?_ | refine Z.wE_rng ?_ | refine Z.wE_lc ?_ | refine Z.wEs_nil ?_ | refine Z.wEs_cons ?_
  | refine Z.wT_cmp ?_ | refine Z.wT_chain ?_ | refine Z.wT_one ?_ | refine Z.wT_and ?_ | refine Z.wT_or ?_ | refine Z.wT_not ?_ | refine Z.wT_val rfl ?_
  | refine Z.wI_of ?_ | refine Z.wI_range ?_ | refine Z.wI_enum ?_ | refine Z.wI_zip ?_ | refine Z.wI_rev ?_
  | refine Z.wA_name ?_ | refine Z.wA_tup rfl ?_ | refine Z.wA_sub ?_ | refine Z.wAs_nil ?_ | refine Z.wAs_cons ?_
  | refine Z.ifB_t ?_ | refine Z.ifB_f ?_ | refine Z.ifB_d (fun c => ?_) (fun c => ?_) | refine Z.ifB_nd (fun c => ?_) (fun c => ?_)
  | refine Z.recv_get (by infer_instance) ?_ | refine Z.and_le rfl ?_
  | refine Z.ok_ixL (by infer_instance) rfl ?_ | refine Z.ok_ixR (by infer_instance) rfl ?_ | refine Z.ok_ixT rfl ?_
  | refine Z.ok_itL (by infer_instance) ?_ | refine Z.ok_itR (by infer_instance) ?_
  | refine Z.ok_lenL (by infer_instance) ?_ | refine Z.ok_lenR (by infer_instance) ?_ | refine Z.ok_lenT ?_ | refine Z.ok_tupL (by infer_instance) ?_
  | refine Z.ok_mod (by first | decide | assumption | omega) ?_
  | refine Z.ok_mul (by first | assumption | decide | omega) (by first | assumption | decide | omega) ?_ | refine Z.ok_fdiv (by first | decide | assumption | omega) (by first | decide | assumption | omega) ?_
  | refine Z.ok_setL (by infer_instance) (by first | decide | omega) (by first | (simp; done) | (simp; omega)) ?_
  | refine Z.ok_addI ?_ | refine Z.ok_subI ?_ | refine Z.ok_ltI ?_ | refine Z.ok_leI ?_ | refine Z.ok_gtI ?_ | refine Z.ok_geI ?_ | refine Z.ok_eqI ?_ | refine Z.ok_neI ?_ | refine Z.ok_eqS ?_ | refine Z.ok_neS ?_
  | refine Z.ok_bl ?_ | refine Z.ok_int ?_ | refine Z.ok_isi rfl ?_ | refine Z.ok_trB ?_ | refine Z.ok_trI ?_ | refine Z.ok_trT ?_ | refine Z.ok_itT ?_ | refine Z.ok_itS ?_ | refine Z.ok_enT ?_ | refine Z.ok_enL (by infer_instance) ?_ | refine Z.ok_rvT ?_
  | refine Z.ok_abs ?_ | refine Z.ok_intI ?_ | refine Z.ok_intB ?_ | refine Z.ok_mx2 ?_ | refine Z.ok_mn2 ?_
  | refine fun h' hg hp => ?_)
/-- a hand: what is left of the great number, the mixed one, the turn -/
def Hand (h : Hq) (n : Nat) (b : Int) : Prop := ∃ g m t : Int, h[n]? = some (.lst [.int g, .int m, .int t]) ∧ 0 ≤ g ∧ 0 ≤ m ∧ m < 2 ^ 61 ∧ 0 ≤ t ∧ t ≤ b
theorem prime6 (t : Int) (ht : 0 ≤ t) : ∃ p : Int, L2.atI [D.int 2147483647, D.int 2147483629, D.int 2147483587, D.int 2147483579, D.int 2147483563, D.int 2147483549] (t % 6) = some (.int p) ∧ 1 < p ∧ p < 2 ^ 31 := by
  have h : t % 6 = 0 ∨ t % 6 = 1 ∨ t % 6 = 2 ∨ t % 6 = 3 ∨ t % 6 = 4 ∨ t % 6 = 5 := by omega
  rcases h with h | h | h | h | h | h <;> rw [h] <;> exact ⟨_, rfl, by decide, by decide⟩
theorem cube_small {x : Int} (h : 0 ≤ x) : 0 ≤ x ^ 3 := by
  rw [Int.pow_succ, Int.pow_succ, Int.pow_succ, Int.pow_zero, Int.one_mul]
  exact Int.mul_nonneg (Int.mul_nonneg h h) h
theorem take_ok {k n : Nat} {h : Hq} {many b : Int} (hd : Hand h n b) (hb : b < 2 ^ 20) (h1 : 0 < many) (h2 : many < 2 ^ 20) :
    wC tb (k + 1) 11 [.ref n, .int many] h fun d h' => ∃ r : Nat, d = .int r ∧ (r : Int) < many ∧ Hand h' n (b + 1) ∧ Hs n h h' := by
  obtain ⟨g, m, t, hn, h3, h4, h5, h6, h7⟩ := hd
  refine wC_in (F := f11) rfl rfl ?_
  show wB tb k b11 [some (.ref n), some (.int many), none, none, none, none] h _
  unfold b11
  repeat' contradiction
  · rename_i c h' hg hp
    have e1 := Int.emod_nonneg g (show many ≠ 0 by omega)
    have e2 := Int.emod_lt_of_pos g h1
    refine ⟨(g % many).toNat, by rw [Int.toNat_of_nonneg e1], by omega, ⟨g / many, m, t, hg, Int.ediv_nonneg h3 (by omega), h4, h5, h6, by omega⟩, ?_⟩
    subst hp
    exact .set
  · rename_i c h1' g1 p1 h2' g2 p2
    obtain ⟨p, ep, hp1, hp2⟩ := prime6 (t + 1) (by omega)
    have tt : 65537 * (t + 1) * (t + 1) ≤ 65537 * 1048577 * 1048577 := Int.mul_le_mul (Int.mul_le_mul (by omega) (by omega) (by omega) (by omega)) (by omega) (by omega) (by omega)
    have tp : 0 ≤ 65537 * (t + 1) * (t + 1) := Int.mul_nonneg (by omega) (by omega)
    refine ok_ixL g2 ep ?_
    repeat' contradiction
    refine ok_pow (j := 3) (by decide) (by omega) ?_
    repeat' contradiction
    have x1 := Int.emod_nonneg ((m + 65537 * (t + 1) * (t + 1) + 31 * (t + 1)) ^ 3) (show p ≠ 0 by omega)
    have x2 := Int.emod_lt_of_pos ((m + 65537 * (t + 1) * (t + 1) + 31 * (t + 1)) ^ 3) (show 0 < p by omega)
    revert x1 x2
    generalize (m + 65537 * (t + 1) * (t + 1) + 31 * (t + 1)) ^ 3 % p = x
    intro x1 x2
    repeat' contradiction
    have y1 := Int.emod_nonneg (x * (x % 10007 + 13 * (t + 1)) % 2305843009213693907 / 97) (show many ≠ 0 by omega)
    have y2 := Int.emod_lt_of_pos (x * (x % 10007 + 13 * (t + 1)) % 2305843009213693907 / 97) h1
    refine ⟨(x * (x % 10007 + 13 * (t + 1)) % 2305843009213693907 / 97 % many).toNat, by rw [Int.toNat_of_nonneg y1], by omega, ⟨g, m, t + 1, pfx_get p2 g1, h3, h4, h5, by omega, by omega⟩, ?_⟩
    subst p1
    exact Hs.set.trans (.pfx p2)
theorem dN_len (l : List Nat) : (l.map dN).length = l.length := by simp
theorem pick_ok {k n m : Nat} {h : Hq} {b : Int} {ds : List D} (hd : Hand h n b) (hb : b < 2 ^ 20) (hm : h[m]? = some (.lst ds)) (hne : m ≠ n) (h0 : 0 < ds.length) (h1 : ds.length < 2 ^ 20) :
    wC tb (k + 2) 12 [.ref n, .ref m] h fun d h' => ds.Mem d ∧ Hand h' n (b + 1) ∧ Hs n h h' := by
  refine wC_in (F := f12) rfl rfl ?_
  show wB tb (k + 1) b12 [some (.ref n), some (.ref m)] h _
  unfold b12
  repeat' contradiction
  refine wC_mono (take_ok hd hb (by omega) (by omega)) fun d h' ⟨r, e, hr, hd', hs⟩ => ?_
  subst e
  have hr' : r < ds.length := by omega
  refine ok_ixL (hs.get m _ hne hm) (L2.atI_nat (List.getElem?_eq_getElem hr')) ?_
  repeat' contradiction
  exact ⟨List.getElem_mem hr', hd', hs⟩
/-- where the way outward goes on from -/
def outI (ps : List Int) (c : Int) : List Nat := if 0 ≤ c then out ps c.toNat else []
theorem outI_neg {ps : List Int} : outI ps (-1) = [] := rfl
theorem outI_nat {ps : List Int} {c : Nat} : outI ps (c : Int) = out ps c := by
  unfold outI
  rw [if_pos (by omega), Int.toNat_natCast]
theorem Pre.next {ps : List Int} (h : Pre ps) {c : Nat} (hc : c < ps.length) : ∃ p : Int, ps[c]? = some p ∧ -1 ≤ p ∧ p < c ∧ out ps c = c :: outI ps p := by
  rcases h.cases hc with ⟨rfl, e1, e2⟩ | ⟨_, p, e1, hp, _, e2⟩
  · exact ⟨-1, e1, by omega, by omega, by rw [e2, outI_neg]⟩
  · exact ⟨p, e1, by omega, by omega, by rw [e2, outI_nat]⟩
theorem ways_ok {k pa w : Nat} {h : Hq} {ps : List Int} {s : Nat} {x0 x1 x2 x3 x5 x8 x9 x10 x11 x12 x13 : Option D} {Q : R → Prop} (P : Pre ps) (hs : s < ps.length) (hl : ps.length < 2 ^ 20) (hp : h[pa]? = some (.lst (ps.map .int))) (hw : h[w]? = some (.lst [])) (hne : pa ≠ w)
    (q : ∀ h', h'[w]? = some (.lst ((out ps s).map dN)) → Hs w h h' → Q (.nx [x0, x1, x2, x3, some (.ref pa), x5, some (.ref w), some (.int (-1)), x8, x9, x10, x11, x12, x13] h')) :
    wW tb k (.cmp .ge (.var 7) (.cst (.int 0))) [(.expr (.mt .append (.var 6) [(.var 7)])), (.asg (.name 7) (.ix (.var 4) (.var 7)))] [x0, x1, x2, x3, some (.ref pa), x5, some (.ref w), some (.int s), x8, x9, x10, x11, x12, x13] h Q := by
  refine wW_inv (inv := fun m ρ h' => ∃ (c : Int) (acc : List Nat), ρ = [x0, x1, x2, x3, some (.ref pa), x5, some (.ref w), some (.int c), x8, x9, x10, x11, x12, x13] ∧ m = (c + 1).toNat ∧ -1 ≤ c ∧ c < ps.length ∧ h'[w]? = some (.lst (acc.map dN)) ∧ acc ++ outI ps c = out ps s ∧ Hs w h h') ?_ _ _ _ ⟨s, [], rfl, rfl, by omega, by omega, hw, by rw [outI_nat]; rfl, .refl⟩
  rintro m ρ h' ⟨c, acc, rfl, rfl, hc1, hc2, ha, ho, hs'⟩
  have hal : acc.length ≤ s + 1 := by
    have h2 : (out ps s).length ≤ s + 1 := out_length
    rw [← ho, List.length_append] at h2
    omega
  repeat' contradiction
  · rename_i c0
    refine ok_app ha (by rw [dN_len]; show _ < 16777216; omega) fun h2 g2 e2 => ?_
    have hp2 : h2[pa]? = some (.lst (ps.map .int)) := by
      rw [e2, List.getElem?_set_ne (Ne.symm hne)]; exact hs'.get pa _ hne hp
    obtain ⟨p, e3, p1, p2, p3⟩ := Pre.next P (c := c.toNat) (by omega)
    have c0' : 0 ≤ c := c0
    repeat' contradiction
    refine ok_ixL hp2 (atI_n c0' (by rw [List.getElem?_map, e3]; rfl)) ?_
    repeat' contradiction
    refine ⟨_, ?_, p, acc ++ [c.toNat], rfl, rfl, p1, by omega, ?_, ?_, ?_⟩
    · omega
    · rw [g2, List.map_append]
      simp [dN, Int.toNat_of_nonneg c0']
    · rw [List.append_assoc, List.singleton_append, ← p3, ← ho]
      unfold outI
      rw [if_pos c0']
    · rw [e2]; exact hs'.trans .set
  · rename_i c0
    have e : c = -1 := by
      have : ¬ 0 ≤ c := c0
      omega
    subst e
    refine q h' ?_ hs'
    rw [outI_neg, List.append_nil] at ho
    rw [← ho]; exact ha
theorem Hand.mono {h : Hq} {n : Nat} {b c : Int} (a : Hand h n b) (hc : b ≤ c) : Hand h n c := by
  obtain ⟨g, m, t, e, h1, h2, h3, h4, h5⟩ := a
  exact ⟨g, m, t, e, h1, h2, h3, h4, by omega⟩
theorem Hand.hs {h h' : Hq} {n w : Nat} {b : Int} (a : Hand h n b) (s : Hs w h h') (hne : n ≠ w) : Hand h' n b := by
  obtain ⟨g, m, t, e, r⟩ := a
  exact ⟨g, m, t, s.get n _ hne e, r⟩
theorem Hand.pfx {h h' : Hq} {n : Nat} {b : Int} (a : Hand h n b) (s : h <+: h') : Hand h' n b := by
  obtain ⟨g, m, t, e, r⟩ := a
  exact ⟨g, m, t, pfx_get s e, r⟩
theorem Hand.lt {h : Hq} {n : Nat} {b : Int} (a : Hand h n b) : n < h.length := by
  obtain ⟨g, m, t, e, r⟩ := a
  exact lt_get e
/-- the parents drawn -/
theorem parents_ok {k n pa : Nat} {h0 h : Hq} {b : Int} {many : Nat} {x1 x2 x3 x6 x7 x8 x9 x10 x11 x12 x13 : Option D} {Q : R → Prop} (hd : Hand h n b) (hb : b + 100 < 2 ^ 20) (hm0 : 0 < many) (hm : many ≤ 40) (hp : h[pa]? = some (.lst [.int (-1)])) (hn0 : n < h0.length) (hpa : h0.length ≤ pa) (hs0 : Hs n h0 h)
    (q : ∀ h' ps y6 y7, Pre ps → ps.length = many → h'[pa]? = some (.lst (ps.map .int)) → Hand h' n (b + 2 * many) → Hs n h0 h' → Q (.nx [some (.ref n), x1, x2, x3, some (.ref pa), some (.int many), y6, y7, x8, x9, x10, x11, x12, x13] h')) :
    wW tb (k + 2) (.cmp .lt (.bi .len [(.var 4)]) (.var 5)) [(.par [6, 7] [(.lst []), (.op .sub (.bi .len [(.var 4)]) (.cst (.int 1)))]),
  (.whl (.cmp .ge (.var 7) (.cst (.int 0))) [(.expr (.mt .append (.var 6) [(.var 7)])),
  (.asg (.name 7) (.ix (.var 4) (.var 7)))]),
  (.expr (.mt .append (.var 4) [(.call 12 [(.var 0), (.lst [(.ix (.var 6) (.cst (.int 0))), (.call 12 [(.var 0), (.var 6)])])])]))] [some (.ref n), x1, x2, x3, some (.ref pa), some (.int many), x6, x7, x8, x9, x10, x11, x12, x13] h Q := by
  refine wW_inv (inv := fun m ρ h' => ∃ ps y6 y7, ρ = [some (.ref n), x1, x2, x3, some (.ref pa), some (.int many), y6, y7, x8, x9, x10, x11, x12, x13] ∧ m = many - ps.length ∧ Pre ps ∧ ps.length ≤ many ∧ h'[pa]? = some (.lst (ps.map .int)) ∧ Hand h' n (b + 2 * (ps.length - 1 : Nat)) ∧ Hs n h0 h') ?_ _ _ _ ⟨[-1], x6, x7, rfl, rfl, Pre.one, hm0, hp, by simpa using hd, hs0⟩
  rintro m ρ h' ⟨ps, y6, y7, rfl, rfl, P, hl, hp, hd, hs⟩
  have hpl := P.len
  repeat' contradiction
  · rename_i c h1 g1 p1
    have c' : ps.length < many := by
      have := c
      simp only [List.length_map] at this
      omega
    have hlen : ((ps.map D.int).length : Int) - 1 = ((ps.length - 1 : Nat) : Int) := by simp only [List.length_map]; omega
    show wW tb (k + 2) _ _ [some (.ref n), x1, x2, x3, some (.ref pa), some (.int many), some (.ref h'.length), some (.int (((ps.map D.int).length : Int) - 1)), x8, x9, x10, x11, x12, x13] h1 _
    rw [hlen]
    have hlt := lt_get hp
    refine ways_ok P (by omega) (by omega) (pfx_get p1 hp) g1 (by omega) fun h2 g2 s2 => ?_
    have hp2 := s2.get pa _ (by omega) (pfx_get p1 hp)
    have hnl := hd.lt
    have hd2 := (hd.pfx p1).hs s2 (by omega)
    have hs2 : Hs n h0 h2 := ⟨Nat.le_trans (Nat.le_trans hs.len (pfx_len p1)) s2.len, fun j u hj e => s2.get j u (by have := lt_get (hs.get j u hj e); omega) (pfx_get p1 (hs.get j u hj e))⟩
    have hol : (out ps (ps.length - 1)).length ≤ ps.length := by have := out_length (ps := ps) (s := ps.length - 1); omega
    have hop : 0 < (out ps (ps.length - 1)).length := List.length_pos_of_mem out_self
    repeat' contradiction
    refine ok_ixL (d := dN (ps.length - 1)) g2 (L2.atI_nat (j := 0) (by rw [out]; rfl)) ?_
    repeat' contradiction
    refine wC_mono (pick_ok hd2 (by omega) g2 (by omega) (by simpa using hop) (by simp; omega)) fun d h3 ⟨hm3, hd3, s3⟩ => ?_
    obtain ⟨x, hx, rfl⟩ := List.mem_map.mp hm3
    repeat' contradiction
    rename_i h4 g4 p4
    refine wC_mono (pick_ok (hd3.pfx p4) (by omega) g4 (by have := lt_get (s3.get pa _ (by omega) hp2); have := hd3.lt; omega) (by simp) (by simp)) fun d h5 ⟨hm5, hd5, s5⟩ => ?_
    have hy : ∃ y, y ∈ out ps (ps.length - 1) ∧ d = dN y := by
      have : d ∈ [dN (ps.length - 1), dN x] := hm5
      simp only [List.mem_cons, List.not_mem_nil, or_false] at this
      rcases this with rfl | rfl
      · exact ⟨_, out_self, rfl⟩
      · exact ⟨_, hx, rfl⟩
    obtain ⟨y, hy, rfl⟩ := hy
    have hne : pa ≠ n := by omega
    have hp5 := s5.get pa _ hne (pfx_get p4 (s3.get pa _ hne hp2))
    have hs5 : Hs n h0 h5 := ((hs2.trans s3).trans (.pfx p4)).trans s5
    repeat' contradiction
    refine ok_app hp5 (by simp; show _ < 16777216; omega) fun h6 g6 e6 => ?_
    repeat' contradiction
    refine ⟨_, ?_, ps ++ [(y : Int)], _, _, rfl, rfl, P.snoc hy, by simp; omega, by rw [g6]; simp, ?_, ?_⟩
    · simp only [List.length_append, List.length_singleton]; omega
    · refine (hd5.hs (w := pa) ?_ (by omega)).mono ?_
      · rw [e6]; exact .set
      · simp only [List.length_append, List.length_singleton]; omega
    · rw [e6]; exact hs5.beyond hpa
  · rename_i c
    have c' : ps.length = many := by
      have := c
      simp only [List.length_map] at this
      omega
    exact q h' ps y6 y7 P c' hp (hd.mono (by omega)) hs
theorem home_ok {k c : Nat} {h : Hq} {cs : List Nat} {d : Nat} (hc : h[c]? = some (.lst (cs.map dN))) (hd : d < cs.sum) : wC tb (k + 1) 14 [.ref c, .int d] h fun r h' => r = dN (home cs d) ∧ h' = h := by
  refine wC_in (F := f14) rfl rfl ?_
  show wB tb k b14 [some (.ref c), some (.int d), none] h _
  unfold b14
  repeat' contradiction
  refine wW_inv (inv := fun m ρ h' => ∃ i e : Nat, ρ = [some (.ref c), some (dN e), some (dN i)] ∧ h' = h ∧ m = cs.length - i ∧ e < (cs.drop i).sum ∧ home cs d = i + home (cs.drop i) e) ?_ _ _ _ ⟨0, d, rfl, rfl, rfl, by simpa using hd, by simp⟩
  rintro m ρ h' ⟨i, e, rfl, rfl, rfl, h1, h2⟩
  have hi : i < cs.length := by
    by_cases hi : i < cs.length
    · exact hi
    · rw [List.drop_eq_nil_of_le (by omega)] at h1; simp at h1
  have hx : (cs.map dN)[i]? = some (dN cs[i]) := by rw [List.getElem?_map, List.getElem?_eq_getElem hi]; rfl
  have hdr : cs.drop i = cs[i] :: cs.drop (i + 1) := List.drop_eq_getElem_cons hi
  rw [hdr, List.sum_cons] at h1
  rw [hdr] at h2
  repeat' contradiction
  refine ok_ixL hc (L2.atI_nat hx) ?_
  repeat' contradiction
  · rename_i c0
    have c1 : cs[i] ≤ e := by have : ((cs[i] : Nat) : Int) ≤ (e : Nat) := c0; omega
    refine ok_ixL hc (L2.atI_nat hx) ?_
    repeat' contradiction
    refine ⟨cs.length - (i + 1), by omega, i + 1, e - cs[i], ?_, rfl, rfl, by omega, ?_⟩
    · show [some (D.ref c), some (D.int ((e : Int) - (cs[i] : Nat))), some (D.int ((i : Nat) + 1))] = _
      rw [show ((e : Nat) : Int) - ((cs[i] : Nat) : Int) = ((e - cs[i] : Nat) : Int) by omega]
      rfl
    · rw [h2, home, if_neg (by omega)]; omega
  · rename_i c0
    have c1 : e < cs[i] := by have : ¬ ((cs[i] : Nat) : Int) ≤ (e : Nat) := c0; omega
    refine ⟨?_, rfl⟩
    rw [h2, home, if_pos c1]
    rfl
theorem outward_ok {k pa : Nat} {h : Hq} {ps : List Int} {s : Nat} (P : Pre ps) (hs : s < ps.length) (hl : ps.length < 2 ^ 20) (hp : h[pa]? = some (.lst (ps.map .int))) :
    wC tb (k + 1) 15 [.ref pa, .int s] h fun d h' => ∃ w, d = .ref w ∧ h'[w]? = some (.lst ((out ps s).map dN)) ∧ h <+: h' := by
  refine wC_in (F := f15) rfl rfl ?_
  show wB tb k b15 [some (.ref pa), some (.int s), none] h _
  unfold b15
  repeat' contradiction
  rename_i h1 g1 p1
  refine wW_inv (inv := fun m ρ h' => ∃ (c : Int) (acc : List Nat), ρ = [some (.ref pa), some (.int c), some (.ref h.length)] ∧ m = (c + 1).toNat ∧ -1 ≤ c ∧ c < ps.length ∧ h'[h.length]? = some (.lst (acc.map dN)) ∧ acc ++ outI ps c = out ps s ∧ h <+: h') ?_ _ _ _ ⟨s, [], rfl, rfl, by omega, by omega, g1, by rw [outI_nat]; rfl, p1⟩
  rintro m ρ h' ⟨c, acc, rfl, rfl, hc1, hc2, ha, ho, hs'⟩
  have hal : acc.length ≤ s + 1 := by
    have h2 : (out ps s).length ≤ s + 1 := out_length
    rw [← ho, List.length_append] at h2
    omega
  repeat' contradiction
  · rename_i c0
    have c0' : 0 ≤ c := c0
    refine ok_app ha (by rw [dN_len]; show _ < 16777216; omega) fun h2 g2 e2 => ?_
    have s2 : h <+: h2 := by rw [e2]; exact pfx_set hs' (Nat.le_refl _)
    obtain ⟨p, e3, p1, p2, p3⟩ := Pre.next P (c := c.toNat) (by omega)
    repeat' contradiction
    refine ok_ixL (pfx_get s2 hp) (atI_n c0' (by rw [List.getElem?_map, e3]; rfl)) ?_
    repeat' contradiction
    refine ⟨_, ?_, p, acc ++ [c.toNat], rfl, rfl, p1, by omega, ?_, ?_, s2⟩
    · omega
    · rw [g2, List.map_append]
      simp [dN, Int.toNat_of_nonneg c0']
    · rw [List.append_assoc, List.singleton_append, ← p3, ← ho]
      unfold outI
      rw [if_pos c0']
  · rename_i c0
    have e : c = -1 := by
      have : ¬ 0 ≤ c := c0
      omega
    subst e
    rw [outI_neg, List.append_nil] at ho
    exact ⟨_, rfl, by rw [← ho]; exact ha, hs'⟩
theorem sum_set {cs : List Nat} {i x : Nat} (h : i < cs.length) : (cs.set i (cs[i] + x)).sum = cs.sum + x := by
  induction cs generalizing i with
  | nil => simp at h
  | cons c r ih =>
    cases i with
    | zero => simp; omega
    | succ i => simp at h ⊢; have := ih h; omega
/-- declarations counted -/
theorem counts_ok {k n ca : Nat} {h0 h : Hq} {b : Int} {many md : Nat} {x1 x2 x3 x4 x6 x7 x9 x10 x11 x12 x13 : Option D} {Q : R → Prop} (hd : Hand h n b) (hb : b + 100 < 2 ^ 20) (hm0 : 0 < many) (hm : many ≤ 40) (hmd : md ≤ 60) (hp : h[ca]? = some (.lst ((List.replicate many 0).map dN))) (hn0 : n < h0.length) (hca : h0.length ≤ ca) (hs0 : Hs n h0 h)
    (q : ∀ h' (cs : List Nat) y9 y10, cs.length = many → cs.sum = md → h'[ca]? = some (.lst (cs.map dN)) → Hand h' n (b + md) → Hs n h0 h' → (∀ m o, m ≠ n → m ≠ ca → m < h.length → h[m]? = some o → h'[m]? = some o) → Q (.nx [some (.ref n), x1, x2, x3, x4, some (.int many), x6, x7, some (.ref ca), y9, y10, x11, x12, x13] h')) :
    wF tb (k + 2) (.items ((List.range md).map fun i => .int (i : Nat))) 0 (.name 9) [(.asg (.name 10) (.call 11 [(.var 0), (.var 5)])),
  (.asg (.sub (.var 8) (.var 10)) (.op .add (.ix (.var 8) (.var 10)) (.cst (.int 1))))] [some (.ref n), x1, x2, x3, x4, some (.int many), x6, x7, some (.ref ca), x9, x10, x11, x12, x13] h Q := by
  refine wF_all (items := (List.range md).map fun i => .int (i : Nat)) (inv := fun i ρ h' => ∃ (cs : List Nat) (y9 y10 : Option D), ρ = [some (.ref n), x1, x2, x3, x4, some (.int many), x6, x7, some (.ref ca), y9, y10, x11, x12, x13] ∧ cs.length = many ∧ cs.sum = i ∧ h'[ca]? = some (.lst (cs.map dN)) ∧ Hand h' n (b + i) ∧ Hs n h0 h' ∧ (∀ m o, m ≠ n → m ≠ ca → m < h.length → h[m]? = some o → h'[m]? = some o)) ⟨List.replicate many 0, x9, x10, rfl, by simp, by simp, hp, by simpa using hd, hs0, fun m o _ _ _ e => e⟩ (fun _ _ _ _ => rfl) ?_ ?_
  · rintro i d ρ h' hi ⟨cs, y9, y10, rfl, hl, hsum, hc, hd, hs, hk⟩
    have hi' : i < md := by have := (List.getElem?_eq_some_iff.mp hi).1; simpa using this
    repeat' contradiction
    refine wC_mono (take_ok hd (by omega) (by omega) (by omega)) fun d h2 ⟨r, e, hr, hd2, s2⟩ => ?_
    subst e
    have hr' : r < cs.length := by omega
    have hx : (cs.map dN)[r]? = some (dN cs[r]) := by rw [List.getElem?_map, List.getElem?_eq_getElem hr']; rfl
    have hc2 := s2.get ca _ (by omega) hc
    repeat' contradiction
    refine ok_ixL hc2 (L2.atI_nat hx) ?_
    repeat' contradiction
    rename_i h3 g3 e3
    refine ⟨cs.set r (cs[r] + 1), _, _, rfl, by simpa using hl, by rw [sum_set hr']; omega, ?_, ?_, ?_, ?_⟩
    · rw [g3, Int.toNat_natCast, List.map_set]; rfl
    · refine (hd2.hs (w := ca) (by rw [e3]; exact .set) (by omega)).mono (by omega)
    · rw [e3]; exact (hs.trans s2).beyond hca
    · intro m o h1 h2 h4 h5
      rw [e3, List.getElem?_set_ne (Ne.symm h2)]
      exact s2.get m o h1 (hk m o h1 h2 h4 h5)
  · rintro ρ h' ⟨cs, y9, y10, rfl, hl, hsum, hc, hd, hs, hk⟩
    simp only [List.length_map, List.length_range] at hsum hd
    exact q h' cs y9 y10 hl hsum hc hd hs hk
/-- empty lists made -/
theorem empties_ok {k pa : Nat} {h : Hq} {ps : List Int} {ρ : Lo} {Q : D → Hq → Prop} (hρ : ρ[4]? = some (some (.ref pa))) (h10 : 10 < ρ.length) (hp : h[pa]? = some (.lst (ps.map .int))) (hl : ps.length ≤ 40)
    (q : ∀ h' (rs : List Nat), rs.length = ps.length → rs.Nodup → (∀ r ∈ rs, h.length < r ∧ h'[r]? = some (.lst [])) → h'[h.length]? = some (.lst (rs.map .ref)) → h <+: h' → Q (.ref h.length) h') : wE tb k (.lc [10] (.of (.var 4)) (.name 10) none (.lst [])) ρ h Q := by
  refine wE_lc (wI_of (wE_var hρ (ok_itL hp ?_)))
  refine wL_all (items := ps.map .int) (inv := fun i acc h' => ∃ rs : List Nat, acc = rs.map D.ref ∧ rs.length = i ∧ rs.Nodup ∧ (∀ r ∈ rs, h.length < r ∧ h'[r]? = some (.lst [])) ∧ h'[h.length]? = some (.lst (rs.map .ref)) ∧ h <+: h') ⟨[], rfl, rfl, List.nodup_nil, by simp, new_get, pfx_new⟩ ?_ ?_ ?_
  · rintro i acc h' ⟨rs, _, _, _, _, _, s⟩
    exact turn_list (pfx_get s hp)
  · rintro i d acc h' hi ⟨rs, rfl, hrl, nd, hr, hN, s⟩
    have hi' : i < ps.length := by have := (List.getElem?_eq_some_iff.mp hi).1; simpa using this
    refine wA_name ?_
    show wE _ _ _ _ _ _
    repeat' contradiction
    rename_i h2 g2 p2
    have hlt := lt_get hN
    refine ⟨pfx_get p2 hN, by simp; show _ < 16777216; omega, rs ++ [h'.length], by simp, by simp [hrl], ?_, ?_, ?_, ?_⟩
    · rw [List.nodup_append]
      refine ⟨nd, by simp, ?_⟩
      intro a ha b hb
      rw [List.mem_singleton.mp hb]
      have := lt_get (hr a ha).2
      omega
    · intro r hr'
      rcases List.mem_append.mp hr' with hr' | hr'
      · refine ⟨(hr r hr').1, ?_⟩
        rw [List.getElem?_set_ne (by have := (hr r hr').1; omega)]
        exact pfx_get p2 (hr r hr').2
      · rw [List.mem_singleton.mp hr']
        refine ⟨hlt, ?_⟩
        rw [List.getElem?_set_ne (by omega)]
        exact g2
    · rw [List.getElem?_set_self (by have := pfx_len p2; omega)]
      simp
    · exact pfx_set (s.trans p2) (Nat.le_refl _)
  · rintro acc h' ⟨rs, rfl, hrl, nd, hr, hN, s⟩
    exact q h' rs (by simpa using hrl) nd hr hN s
/-- uses by the scopes' lists -/
structure Uses (ps : List Int) (cs : List Nat) (us : List (List Nat)) (m : Nat) : Prop where
  len : us.length = ps.length
  nd : ∀ (i : Nat) (l : List Nat), us[i]? = some l → l.Nodup
  ok : ∀ (i : Nat) (l : List Nat), us[i]? = some l → ∀ d ∈ l, d < cs.sum ∧ home cs d ∈ out ps i
  few : (us.map List.length).sum ≤ m
theorem len_set {us : List (List Nat)} {i x : Nat} {l : List Nat} (h : us[i]? = some l) : ((us.set i (l ++ [x])).map List.length).sum = (us.map List.length).sum + 1 := by
  induction us generalizing i with
  | nil => simp at h
  | cons c r ih =>
    cases i with
    | zero => simp at h; subst h; simp; omega
    | succ i =>
      have := ih (i := i) (by simpa using h)
      simp only [List.set_cons_succ, List.map_cons, List.sum_cons, this]
      omega
theorem Uses.more {ps : List Int} {cs : List Nat} {us : List (List Nat)} {m s d : Nat} {l : List Nat} (u : Uses ps cs us m) (hl : us[s]? = some l) (h1 : d < cs.sum) (h2 : home cs d ∈ out ps s) (h3 : d ∉ l) : Uses ps cs (us.set s (l ++ [d])) (m + 1) := by
  have hs := (List.getElem?_eq_some_iff.mp hl).1
  refine ⟨by simpa using u.len, fun i l' e => ?_, fun i l' e x hx => ?_, by rw [len_set hl]; have := u.few; omega⟩
  · by_cases hi : s = i
    · subst hi
      rw [List.getElem?_set_self hs] at e
      cases e
      rw [List.nodup_append]
      exact ⟨u.nd _ _ hl, by simp, fun a ha b hb => by rw [List.mem_singleton.mp hb]; intro e; exact h3 (e ▸ ha)⟩
    · rw [List.getElem?_set_ne hi] at e; exact u.nd _ _ e
  · by_cases hi : s = i
    · subst hi
      rw [List.getElem?_set_self hs] at e
      cases e
      rcases List.mem_append.mp hx with hx | hx
      · exact u.ok _ _ hl x hx
      · rw [List.mem_singleton.mp hx]; exact ⟨h1, h2⟩
    · rw [List.getElem?_set_ne hi] at e; exact u.ok _ _ e x hx
theorem Uses.mono {ps : List Int} {cs : List Nat} {us : List (List Nat)} {m m' : Nat} (u : Uses ps cs us m) (h : m ≤ m') : Uses ps cs us m' := ⟨u.len, u.nd, u.ok, Nat.le_trans u.few h⟩
theorem nodup_idx {l : List Nat} {i j a : Nat} (h : l.Nodup) (h1 : l[i]? = some a) (h2 : l[j]? = some a) : i = j := by
  obtain ⟨hi, e1⟩ := List.getElem?_eq_some_iff.mp h1
  obtain ⟨hj, e2⟩ := List.getElem?_eq_some_iff.mp h2
  have p := List.pairwise_iff_getElem.mp h
  rcases Nat.lt_trichotomy i j with c | c | c
  · exact absurd (e1.trans e2.symm) (p i j hi hj c)
  · exact c
  · exact absurd (e2.trans e1.symm) (p j i hj hi c)
/-- how the uses' lists lie -/
structure Lie (h : Hq) (u : Nat) (rs : List Nat) (us : List (List Nat)) (low : Nat) : Prop where
  at_ : h[u]? = some (.lst (rs.map .ref))
  nd : rs.Nodup
  low : low ≤ u ∧ ∀ r ∈ rs, u < r
  len : rs.length = us.length
  get : ∀ (i r : Nat) (l : List Nat), rs[i]? = some r → us[i]? = some l → h[r]? = some (.lst (l.map dN))
theorem Lie.hs {h h' : Hq} {u low n : Nat} {rs : List Nat} {us : List (List Nat)} (a : Lie h u rs us low) (s : Hs n h h') (hn : n < low) : Lie h' u rs us low :=
  ⟨s.get u _ (by have := a.low.1; omega) a.at_, a.nd, a.low, a.len, fun i r l e1 e2 => s.get r _ (by have := a.low.1; have := a.low.2 r (List.mem_of_getElem? e1); omega) (a.get i r l e1 e2)⟩
theorem Lie.pfx {h h' : Hq} {u low : Nat} {rs : List Nat} {us : List (List Nat)} (a : Lie h u rs us low) (s : h <+: h') : Lie h' u rs us low :=
  ⟨pfx_get s a.at_, a.nd, a.low, a.len, fun i r l e1 e2 => pfx_get s (a.get i r l e1 e2)⟩
theorem Lie.set {h : Hq} {u low s r d : Nat} {l : List Nat} {rs : List Nat} {us : List (List Nat)} (a : Lie h u rs us low) (hr : rs[s]? = some r) (hl : us[s]? = some l) : Lie (h.set r (.lst ((l ++ [d]).map dN))) u rs (us.set s (l ++ [d])) low := by
  have hlt := lt_get (a.get s r l hr hl)
  have hur := a.low.2 r (List.mem_of_getElem? hr)
  refine ⟨by rw [List.getElem?_set_ne (by omega)]; exact a.at_, a.nd, a.low, by simpa using a.len, fun i r' l' e1 e2 => ?_⟩
  by_cases hi : s = i
  · subst hi
    rw [hr] at e1; cases e1
    rw [List.getElem?_set_self (List.getElem?_eq_some_iff.mp hl).1] at e2
    cases e2
    exact List.getElem?_set_self hlt
  · rw [List.getElem?_set_ne hi] at e2
    have hne : r ≠ r' := fun e => by
      subst e
      exact hi (nodup_idx a.nd hr e1)
    rw [List.getElem?_set_ne hne]
    exact a.get i r' l' e1 e2
/-- a scope of a program -/
structure Sc where
  par : Int
  cnt : Nat
  uses : List Nat
def dSc (s : Sc) : D := .tup [.int s.par, dN s.cnt, .tup (s.uses.map dN)]
def dP (P : List Sc) : D := .tup (P.map dSc)
structure Good (P : List Sc) (ms md mu : Nat) : Prop where
  pre : Pre (P.map (·.par))
  len : P.length ≤ ms
  cnt : (P.map (·.cnt)).sum ≤ md
  asc : ∀ s ∈ P, s.uses.Pairwise (· < ·)
  ok : ∀ (i : Nat) (s : Sc), P[i]? = some s → ∀ d ∈ s.uses, d < (P.map (·.cnt)).sum ∧ home (P.map (·.cnt)) d ∈ out (P.map (·.par)) i
  few : (P.map fun s => s.uses.length).sum ≤ mu
/-- uses drawn -/
theorem uses_ok {k n pa ca u : Nat} {h0 h : Hq} {b : Int} {many mu low : Nat} {ps : List Int} {cs : List Nat} {rs : List Nat} {us : List (List Nat)} {x1 x2 x3 x6 x7 x9 x10 x12 x13 : Option D} {Q : R → Prop} (hd : Hand h n b) (hb : b + 100 < 2 ^ 20) (P : Pre ps) (hm : many = ps.length) (hm1 : many ≤ 40) (hmu : mu ≤ 40) (hc1 : cs.length = many) (hc2 : cs.sum ≤ 60) (htt : 0 < mu → 0 < cs.sum)
    (hp : h[pa]? = some (.lst (ps.map .int))) (hc : h[ca]? = some (.lst (cs.map dN))) (hn0 : n < h0.length) (hpa : h0.length ≤ pa) (hca : h0.length ≤ ca) (hs0 : Hs n h0 h) (L : Lie h u rs us low) (hlow : h0.length ≤ low) (hpl : pa < low) (hcl : ca < low) (U : Uses ps cs us 0)
    (q : ∀ h' us' y9 y10 y12, Uses ps cs us' mu → Lie h' u rs us' low → h'[pa]? = some (.lst (ps.map .int)) → h'[ca]? = some (.lst (cs.map dN)) → Hand h' n (b + 2 * mu) → Hs n h0 h' → Q (.nx [some (.ref n), x1, x2, x3, some (.ref pa), some (.int many), x6, x7, some (.ref ca), y9, y10, some (.ref u), y12, x13] h')) :
    wF tb (k + 2) (.items ((List.range mu).map fun i => .int (i : Nat))) 0 (.name 9) [(.par [12, 10] [(.call 11 [(.var 0), (.bi .sum [(.var 8)])]), (.call 11 [(.var 0), (.var 5)])]),
  (.iff (.and (.cmp .isIn (.call 14 [(.var 8), (.var 12)]) (.call 15 [(.var 4), (.var 10)])) (.one (.cmp .notIn (.var 12) (.ix (.var 11) (.var 10))))) [(.expr (.mt .append (.ix (.var 11) (.var 10)) [(.var 12)]))] [])] [some (.ref n), x1, x2, x3, some (.ref pa), some (.int many), x6, x7, some (.ref ca), x9, x10, some (.ref u), x12, x13] h Q := by
  refine wF_all (items := (List.range mu).map fun i => .int (i : Nat)) (inv := fun i ρ h' => ∃ (us' : List (List Nat)) (y9 y10 y12 : Option D), ρ = [some (.ref n), x1, x2, x3, some (.ref pa), some (.int many), x6, x7, some (.ref ca), y9, y10, some (.ref u), y12, x13] ∧ Uses ps cs us' i ∧ Lie h' u rs us' low ∧ h'[pa]? = some (.lst (ps.map .int)) ∧ h'[ca]? = some (.lst (cs.map dN)) ∧ Hand h' n (b + 2 * i) ∧ Hs n h0 h') ⟨us, x9, x10, x12, rfl, U, L, hp, hc, by simpa using hd, hs0⟩ (fun _ _ _ _ => rfl) ?_ ?_
  · rintro i d ρ h' hi ⟨us', y9, y10, y12, rfl, U, L, hp, hc, hd, hs⟩
    have hi' : i < mu := by have := (List.getElem?_eq_some_iff.mp hi).1; simpa using this
    have ht := htt (by omega)
    have hplen := P.len
    repeat' contradiction
    refine ok_sumN hc ?_
    repeat' contradiction
    refine wC_mono (take_ok hd (by omega) (by omega) (by omega)) fun d h2 ⟨r, e, hr, hd2, s2⟩ => ?_
    subst e
    have hr' : r < cs.sum := by omega
    repeat' contradiction
    refine wC_mono (take_ok hd2 (by omega) (by omega) (by omega)) fun d h3 ⟨s, e, hsm, hd3, s3⟩ => ?_
    subst e
    have hs' : s < ps.length := by omega
    have sn := s2.trans s3
    have L3 := L.hs sn (by omega)
    have hp3 := sn.get pa _ (by omega) hp
    have hc3 := sn.get ca _ (by omega) hc
    have hs3 := hs.trans sn
    repeat' contradiction
    refine wC_mono (home_ok hc3 hr') fun d h4 ⟨e1, e2⟩ => ?_
    subst e1 e2
    repeat' contradiction
    refine wC_mono (outward_ok P hs' (by omega) hp3) fun d h5 ⟨w, e, g5, p5⟩ => ?_
    subst e
    have L5 := L3.pfx p5
    have hp5 := pfx_get p5 hp3
    have hc5 := pfx_get p5 hc3
    have hd5 := hd3.pfx p5
    have hs5 := hs3.trans (.pfx p5)
    have hsr : s < rs.length := by rw [L5.len, U.len]; exact hs'
    have hsu : s < us'.length := by rw [U.len]; exact hs'
    have e1 : rs[s]? = some rs[s] := List.getElem?_eq_getElem hsr
    have e2 : us'[s]? = some us'[s] := List.getElem?_eq_getElem hsu
    have e3 : (rs.map D.ref)[s]? = some (.ref rs[s]) := by rw [List.getElem?_map, e1]; rfl
    have same : ∀ (y9 y10 y12 : Option D), ∃ (us' : List (List Nat)) (z9 z10 z12 : Option D), [some (.ref n), x1, x2, x3, some (.ref pa), some (.int many), x6, x7, some (.ref ca), y9, y10, some (.ref u), y12, x13] = [some (.ref n), x1, x2, x3, some (.ref pa), some (.int many), x6, x7, some (.ref ca), z9, z10, some (.ref u), z12, x13] ∧ Uses ps cs us' (i + 1) ∧ Lie h5 u rs us' low ∧ h5[pa]? = some (.lst (ps.map .int)) ∧ h5[ca]? = some (.lst (cs.map dN)) ∧ Hand h5 n (b + 2 * (i + 1 : Nat)) ∧ Hs n h0 h5 := fun y9 y10 y12 => ⟨us', y9, y10, y12, rfl, U.mono (by omega), L5, hp5, hc5, hd5.mono (by omega), hs5⟩
    refine ok_inN g5 ?_
    refine ifB_d (fun c1 => ?_) (fun c1 => ?_)
    · repeat' contradiction
      refine ok_ixL L5.at_ (L2.atI_nat e3) ?_
      repeat' contradiction
      refine ok_ninN (L5.get s _ _ e1 e2) ?_
      rw [ifB_not]
      refine ifB_d (fun c2 => ?_) (fun c2 => ?_)
      · repeat' contradiction
        exact same _ _ _
      · repeat' contradiction
        refine ok_ixL L5.at_ (L2.atI_nat e3) ?_
        have gl := L5.get s _ _ e1 e2
        refine recv_get gl ?_
        repeat' contradiction
        have hlen : (us'[s]).length ≤ i := by
          have h1 := U.few
          have h2 : (us'[s]).length ≤ (us'.map List.length).sum := by
            have : (us'[s]).length ∈ us'.map List.length := List.mem_map.mpr ⟨_, List.mem_of_getElem? e2, rfl⟩
            exact mem_sum this
          omega
        refine ok_app gl (by rw [List.length_map]; show _ < 16777216; omega) fun h6 g6 e6 => ?_
        have hur := L5.low.2 rs[s] (List.mem_of_getElem? e1)
        have hlu := L5.low.1
        have e6' : h6 = h5.set rs[s] (.lst ((us'[s] ++ [r]).map dN)) := by rw [e6, List.map_append]; rfl
        repeat' contradiction
        refine ⟨us'.set s (us'[s] ++ [r]), _, _, _, rfl, U.more e2 hr' c1 c2, ?_, ?_, ?_, ?_, ?_⟩
        · rw [e6']; exact L5.set e1 e2
        · rw [e6, List.getElem?_set_ne (by omega)]; exact hp5
        · rw [e6, List.getElem?_set_ne (by omega)]; exact hc5
        · refine (hd5.hs (w := rs[s]) (by rw [e6]; exact .set) (by omega)).mono (by omega)
        · rw [e6]; exact hs5.beyond (by omega)
    · repeat' contradiction
      exact same _ _ _
  · rintro ρ h' ⟨us', y9, y10, y12, rfl, U, L, hp, hc, hd, hs⟩
    simp only [List.length_map, List.length_range] at U hd
    exact q h' us' y9 y10 y12 U L hp hc hd hs
def scOf (ps : List Int) (cs : List Nat) (us : List (List Nat)) (i : Nat) : Sc := ⟨ps.getD i 0, cs.getD i 0, sortN (us.getD i [])⟩
def mkP (ps : List Int) (cs : List Nat) (us : List (List Nat)) : List Sc := (List.range ps.length).map (scOf ps cs us)
theorem range_getD {α : Type} (l : List α) (d : α) : (List.range l.length).map (fun i => l.getD i d) = l := by
  refine List.ext_getElem (by simp) fun i h1 h2 => ?_
  simp only [List.getElem_map, List.getElem_range]
  rw [List.getD_eq_getElem?_getD, List.getElem?_eq_getElem h2]
  rfl
theorem mkP_par (ps : List Int) (cs : List Nat) (us : List (List Nat)) : (mkP ps cs us).map (·.par) = ps := by
  unfold mkP
  rw [List.map_map]
  exact range_getD ps 0
theorem mkP_cnt {ps : List Int} {cs : List Nat} (us : List (List Nat)) (h : cs.length = ps.length) : (mkP ps cs us).map (·.cnt) = cs := by
  unfold mkP
  rw [List.map_map, ← h]
  exact range_getD cs 0
theorem sortN_len (l : List Nat) : (sortN l).length = l.length := (sortN_perm l).length_eq
theorem mkP_len {ps : List Int} {cs : List Nat} {us : List (List Nat)} (h : us.length = ps.length) : (mkP ps cs us).map (fun s => s.uses.length) = us.map List.length := by
  unfold mkP
  rw [List.map_map, ← h]
  have := range_getD us []
  conv => rhs; rw [← this, List.map_map]
  refine List.map_congr_left fun i _ => ?_
  exact sortN_len _
theorem mkP_get {ps : List Int} {cs : List Nat} {us : List (List Nat)} {i : Nat} {s : Sc} (h : (mkP ps cs us)[i]? = some s) : i < ps.length ∧ s = scOf ps cs us i := by
  unfold mkP at h
  rw [List.getElem?_map] at h
  by_cases hi : i < ps.length
  · rw [List.getElem?_range hi] at h
    exact ⟨hi, (Option.some.inj h).symm⟩
  · rw [List.getElem?_eq_none (by simpa using hi)] at h; cases h
theorem sortN_lt {l : List Nat} (h : l.Nodup) : (sortN l).Pairwise (· < ·) := by
  have h1 := sortN_le l
  have h2 : (sortN l).Nodup := (sortN_perm l).nodup_iff.mpr h
  have h3 := h1.and h2
  exact h3.imp fun ⟨a, b⟩ => Nat.lt_of_le_of_ne a b
theorem mkP_good {ps : List Int} {cs : List Nat} {us : List (List Nat)} {ms md mu : Nat} (P : Pre ps) (h1 : ps.length ≤ ms) (h2 : cs.length = ps.length) (h3 : cs.sum ≤ md) (U : Uses ps cs us mu) : Good (mkP ps cs us) ms md mu := by
  refine ⟨by rw [mkP_par]; exact P, by unfold mkP; simpa using h1, by rw [mkP_cnt us h2]; exact h3, fun s hs => ?_, fun i s e d hd => ?_, by rw [mkP_len U.len]; exact U.few⟩
  · obtain ⟨i, e⟩ := List.mem_iff_getElem?.mp hs
    obtain ⟨hi, rfl⟩ := mkP_get e
    have hu : i < us.length := by rw [U.len]; exact hi
    show (sortN (us.getD i [])).Pairwise (· < ·)
    rw [List.getD_eq_getElem?_getD, List.getElem?_eq_getElem hu]
    exact sortN_lt (U.nd i _ (List.getElem?_eq_getElem hu))
  · obtain ⟨hi, rfl⟩ := mkP_get e
    have hu : i < us.length := by rw [U.len]; exact hi
    rw [mkP_cnt us h2, mkP_par]
    have hd' : d ∈ sortN (us.getD i []) := hd
    rw [List.getD_eq_getElem?_getD, List.getElem?_eq_getElem hu] at hd'
    exact U.ok i _ (List.getElem?_eq_getElem hu) d ((sortN_perm _).mem_iff.mp hd')
/-- the rows put together -/
theorem rows_ok {k pa ca u low many : Nat} {h : Hq} {ps : List Int} {cs : List Nat} {rs : List Nat} {us : List (List Nat)} {ρ : Lo} {Q : D → Hq → Prop} (h4 : ρ[4]? = some (some (.ref pa))) (h5 : ρ[5]? = some (some (.int many))) (h8 : ρ[8]? = some (some (.ref ca))) (h11 : ρ[11]? = some (some (.ref u))) (h14 : ρ.length = 14) (hm : many = ps.length) (hm1 : many ≤ 40) (hc1 : cs.length = many) (hu1 : us.length = many)
    (hp : h[pa]? = some (.lst (ps.map .int))) (hc : h[ca]? = some (.lst (cs.map dN))) (L : Lie h u rs us low) (hs : ∀ l ∈ us, l.length ≤ 40) (q : ∀ h', h <+: h' → Q (dP (mkP ps cs us)) h') :
    wE tb k (.bi .tuple [(.lc [13] (.range [(.var 5)]) (.name 13) none (.tup [(.ix (.var 4) (.var 13)), (.ix (.var 8) (.var 13)), (.bi .tuple [(.bi .sorted [(.ix (.var 11) (.var 13))])])]))]) ρ h Q := by
  refine wE_bi (wEs_cons (wE_lc (wI_range (wEs_cons (wE_var h5 (wEs_nil (ok_rg1 (by omega) (by omega) ?_)))))))
  rw [Int.toNat_natCast]
  refine wL_all (items := (List.range many).map fun i => .int (i : Nat)) (inv := fun i acc h' => acc = ((List.range i).map fun j => dSc (scOf ps cs us j)) ∧ h'[h.length]? = some (.lst acc) ∧ h <+: h') ⟨rfl, new_get, pfx_new⟩ (fun _ _ _ _ => rfl) ?_ ?_
  · rintro i d acc h' hi ⟨rfl, hN, s⟩
    have hi' : i < many := by have := (List.getElem?_eq_some_iff.mp hi).1; simpa using this
    have ed : d = .int (i : Nat) := by rw [List.getElem?_map, List.getElem?_range hi'] at hi; exact (Option.some.inj hi).symm
    subst ed
    refine wA_name ?_
    have v : ∀ j x, j ≠ 13 → ρ[j]? = some x → ((wipeL ρ [13]).set 13 (some (D.int (i : Nat))))[j]? = some x := fun j x hj e => by
      rw [List.getElem?_set_ne (Ne.symm hj)]
      show (ρ.set 13 none)[j]? = _
      rw [List.getElem?_set_ne (Ne.symm hj)]; exact e
    have v13 : ((wipeL ρ [13]).set 13 (some (D.int (i : Nat))))[13]? = some (some (.int (i : Nat))) := List.getElem?_set_self (by show 13 < (ρ.set 13 none).length; rw [List.length_set, h14]; decide)
    have e1 : (ps.map D.int)[i]? = some (.int (ps.getD i 0)) := by rw [List.getElem?_map, List.getD_eq_getElem?_getD, List.getElem?_eq_getElem (by omega)]; rfl
    have e2 : (cs.map dN)[i]? = some (dN (cs.getD i 0)) := by rw [List.getElem?_map, List.getD_eq_getElem?_getD, List.getElem?_eq_getElem (by omega)]; rfl
    have hru : i < rs.length := by rw [L.len]; omega
    have hus : i < us.length := by omega
    have e3 : (rs.map D.ref)[i]? = some (.ref rs[i]) := by rw [List.getElem?_map, List.getElem?_eq_getElem hru]; rfl
    have L' := L.pfx s
    have gl := L'.get i _ _ (List.getElem?_eq_getElem hru) (List.getElem?_eq_getElem hus)
    show wE _ _ _ _ _ _
    refine wE_tup (wEs_cons (wE_ix (wE_var (v 4 _ (by decide) h4) (wE_var v13 (ok_ixL (pfx_get s hp) (L2.atI_nat e1) ?_)))))
    refine wEs_cons (wE_ix (wE_var (v 8 _ (by decide) h8) (wE_var v13 (ok_ixL (pfx_get s hc) (L2.atI_nat e2) ?_))))
    refine wEs_cons (wE_bi (wEs_cons (wE_bi (wEs_cons (wE_ix (wE_var (v 11 _ (by decide) h11) (wE_var v13 (ok_ixL L'.at_ (L2.atI_nat e3) (wEs_nil (ok_sortN gl fun h2 g2 p2 => ?_))))))))))
    refine wEs_nil (ok_tupL g2 (wEs_nil ⟨(by show 3 ≤ 16777216; decide), pfx_get p2 hN, (by simp; show _ < 16777216; omega), ?_, ?_, pfx_set (s.trans p2) (Nat.le_refl _)⟩))
    · rw [List.range_succ, List.map_append]
      show _ ++ [D.tup [D.int (ps.getD i 0), dN (cs.getD i 0), D.tup ((sortN us[i]).map dN)]] = _ ++ [dSc (scOf ps cs us i)]
      have : us.getD i [] = us[i] := by rw [List.getD_eq_getElem?_getD, List.getElem?_eq_getElem hus]; rfl
      simp only [dSc, scOf, this]
    · exact set_get (pfx_get p2 hN)
  · rintro acc h' ⟨e, hN, s⟩
    subst e
    refine wEs_nil (ok_tupL hN ?_)
    have e : D.tup ((List.range ((List.range many).map fun i => D.int (i : Nat)).length).map fun j => dSc (scOf ps cs us j)) = dP (mkP ps cs us) := by
      unfold dP mkP
      rw [List.length_map, List.length_range, List.map_map, hm]
      rfl
    rw [e]
    exact q h' s
theorem program_ok {k n ms md mu : Nat} {h : Hq} {b : Int} (hd : Hand h n b) (hb : b + 400 < 2 ^ 20) (hms : 0 < ms) (hms2 : ms ≤ 40) (hmd : md ≤ 60) (hmu : mu ≤ 40) :
    wC tb (k + 3) 13 [.ref n, .int ms, .int md, .int mu] h fun d h' => ∃ P, d = dP P ∧ Good P ms md mu ∧ Hand h' n (b + 400) ∧ Hs n h h' := by
  have hn := hd.lt
  refine wC_in (F := f13) rfl rfl ?_
  show wB tb (k + 2) b13 [some (.ref n), some (.int ms), some (.int md), some (.int mu), none, none, none, none, none, none, none, none, none, none] h _
  unfold b13
  repeat' contradiction
  rename_i h1 g1 p1
  refine wC_mono (take_ok (hd.pfx p1) (by omega) (by omega) (by omega)) fun d h2 ⟨r, e, hr, hd2, s2⟩ => ?_
  subst e
  have g2 := s2.get h.length _ (by omega) g1
  have hs2 : Hs n h h2 := (Hs.pfx p1).trans s2
  repeat' contradiction
  show wW tb (k + 2) _ _ [some (.ref n), some (.int ms), some (.int md), some (.int mu), some (.ref h.length), some (.int (1 + (r : Int))), none, none, none, none, none, none, none, none] h2 _
  rw [show (1 : Int) + (r : Int) = ((r + 1 : Nat) : Int) by omega]
  refine parents_ok hd2 (by omega) (by omega) (by omega) g2 hn (Nat.le_refl _) hs2 fun h3 ps y6 y7 P hpl hp3 hd3 hs3 => ?_
  repeat' contradiction
  rename_i h4 g4 p4
  refine ok_rep g4 (by omega) (by simp; show r + 1 ≤ 16777216; omega) (by omega) fun h5 g5 p5 => ?_
  have hd5 := (hd3.pfx p4).pfx p5
  have hs5 := (hs3.trans (.pfx p4)).trans (.pfx p5)
  have hp5 := pfx_get p5 (pfx_get p4 hp3)
  have hh4 := lt_get g4
  have hh5 := pfx_len p4
  have hlh := lt_get hp3
  repeat' contradiction
  refine wC_mono (take_ok hd5 (by omega) (by omega) (by omega)) fun d h6 ⟨md', e, hr6, hd6, s6⟩ => ?_
  subst e
  repeat' contradiction
  refine ok_rg1 (by omega) (by omega) ?_
  rw [Int.toNat_natCast]
  have hc6 : h6[h4.length]? = some (.lst ((List.replicate (r + 1) 0).map dN)) := by
    rw [s6.get h4.length _ (by omega) g5, Int.toNat_natCast]
    congr 2
    rw [List.map_replicate]
    simp
  have hp6 := s6.get h.length _ (by omega) hp5
  have hs6 := hs5.trans s6
  refine counts_ok hd6 (by omega) (by omega) (by omega) (by omega) hc6 hn (by omega) hs6 fun h7 cs y9 y10 hcl hcs hc7 hd7 hs7 hk7 => ?_
  have hp7 := hk7 h.length _ (by omega) (by omega) (lt_get hp6) hp6
  refine wB_cons (wS_asg (empties_ok rfl (by show 10 < 14; decide) hp7 (by omega) fun h8 rs hrl nd hr8 hu8 p8 => ?_))
  have hd8 := hd7.pfx p8
  have hs8 := hs7.trans (.pfx p8)
  have hp8 := pfx_get p8 hp7
  have hc8 := pfx_get p8 hc7
  have hh7 := lt_get hc7
  have L8 : Lie h8 h7.length rs (List.replicate (r + 1) []) h7.length := ⟨hu8, nd, ⟨Nat.le_refl _, fun x hx => (hr8 x hx).1⟩, by rw [hrl, hpl]; simp, fun i x l e1 e2 => by
    have e3 : l = [] := by
      rw [List.getElem?_replicate] at e2
      split at e2 <;> cases e2
      rfl
    subst e3
    exact (hr8 x (List.mem_of_getElem? e1)).2⟩
  repeat' contradiction
  refine wC_mono (take_ok hd8 (by omega) (by omega) (by omega)) fun d h9 ⟨t, e, hr9, hd9, s9⟩ => ?_
  subst e
  have L9 := L8.hs s9 (by omega)
  have hp9 := s9.get h.length _ (by omega) hp8
  have hc9 := s9.get h4.length _ (by omega) hc8
  have hs9 := hs8.trans s9
  repeat' contradiction
  refine ok_sumN hc9 ?_
  repeat' contradiction
  have fin : ∀ m : Nat, m ≤ mu → (0 < m → 0 < cs.sum) → ∀ x : Int, x = (m : Int) → OkRange [.int x] fun xs => wF tb (k + 2) (.items xs) 0 (.name 9) [(.par [12, 10] [(.call 11 [(.var 0), (.bi .sum [(.var 8)])]), (.call 11 [(.var 0), (.var 5)])]),
      (.iff (.and (.cmp .isIn (.call 14 [(.var 8), (.var 12)]) (.call 15 [(.var 4), (.var 10)])) (.one (.cmp .notIn (.var 12) (.ix (.var 11) (.var 10))))) [(.expr (.mt .append (.ix (.var 11) (.var 10)) [(.var 12)]))] [])]
      [some (.ref n), some (.int ms), some (.int md), some (.int mu), some (.ref h.length), some (.int ((r + 1 : Nat) : Int)), y6, y7, some (.ref h4.length), y9, y10, some (.ref h7.length), none, none] h9
      (onR (onC fun d h' => ∃ P, d = dP P ∧ Good P ms md mu ∧ Hand h' n (b + 400) ∧ Hs n h h') fun ρ1 h1 => wB tb (k + 2) [(.ret (.bi .tuple [(.lc [13] (.range [(.var 5)]) (.name 13) none (.tup [(.ix (.var 4) (.var 13)), (.ix (.var 8) (.var 13)), (.bi .tuple [(.bi .sorted [(.ix (.var 11) (.var 13))])])]))]))] ρ1 h1 (onC fun d h' => ∃ P, d = dP P ∧ Good P ms md mu ∧ Hand h' n (b + 400) ∧ Hs n h h')) := by
    intro m hm hpos x hx
    subst hx
    refine ok_rg1 (by omega) (by omega) ?_
    rw [Int.toNat_natCast]
    refine uses_ok (h0 := h) (low := h7.length) hd9 (by omega) P hpl.symm (by omega) (by omega) hcl (by omega) hpos hp9 hc9 hn (Nat.le_refl _) (by omega) hs9 L9 (by omega) (by omega) hh7 ⟨by rw [hpl]; simp, fun i l e => ?_, fun i l e d hd => ?_, by simp⟩ fun h10 us z9 z10 z12 U L10 hp10 hc10 hd10 hs10 => ?_
    · rw [List.getElem?_replicate] at e
      split at e <;> cases e
      exact List.nodup_nil
    · rw [List.getElem?_replicate] at e
      split at e <;> cases e
      cases hd
    · have hfew : ∀ l ∈ us, l.length ≤ 40 := fun l hl => by
        have := mem_sum (List.mem_map.mpr ⟨l, hl, rfl⟩ : l.length ∈ us.map List.length)
        have := U.few
        omega
      refine onR_nx (wB_cons (wS_ret (rows_ok rfl rfl rfl rfl rfl hpl.symm (by omega) hcl (by rw [U.len]; exact hpl) hp10 hc10 L10 hfew fun h11 p11 => ?_)))
      refine onR_ret (onC_ret ⟨_, rfl, mkP_good P (by omega) (by omega) (by omega) (U.mono hm), (hd10.pfx p11).mono (by omega), hs10.trans (.pfx p11)⟩)
  by_cases hz : 0 < cs.sum
  · have e0 : (0 : Int) < (cs.sum : Nat) := by omega
    rw [decide_eq_true e0]
    exact fin t (by omega) (fun _ => hz) _ (by show (t : Int) * 1 = _; omega)
  · have e0 : ¬ (0 : Int) < (cs.sum : Nat) := by omega
    rw [decide_eq_false e0]
    exact fin 0 (by omega) (fun hh => absurd hh (Nat.lt_irrefl _)) _ (by show (t : Int) * 0 = _; omega)
/-- programs as they come -/
def GP (P : List Sc) : Prop := Good P 40 60 40
theorem Good.gp {P : List Sc} {a b c : Nat} (g : Good P a b c) (h1 : a ≤ 40) (h2 : b ≤ 60) (h3 : c ≤ 40) : GP P := ⟨g.pre, Nat.le_trans g.len h1, Nat.le_trans g.cnt h2, g.asc, g.ok, Nat.le_trans g.few h3⟩
abbrev pars (P : List Sc) : List Int := P.map (·.par)
abbrev cnts (P : List Sc) : List Nat := P.map (·.cnt)
theorem dP_get {P : List Sc} {i : Nat} {s : Sc} (h : P[i]? = some s) : (P.map dSc)[i]? = some (dSc s) := by rw [List.getElem?_map, h]; rfl
theorem par_get {P : List Sc} {i : Nat} {p : Int} (h : (pars P)[i]? = some p) : ∃ s, P[i]? = some s ∧ s.par = p := by
  rw [List.getElem?_map] at h
  cases e : P[i]? with
  | none => rw [e] at h; cases h
  | some s => rw [e] at h; exact ⟨s, rfl, Option.some.inj h⟩
theorem isint_ok {k : Nat} {h : Hq} {v a b : Int} (h1 : a ≤ v) (h2 : v ≤ b) : wC tb (k + 1) 0 [.int v, .int a, .int b] h fun d h' => d = .bl true ∧ h' = h := by
  refine wC_in (F := f0) rfl rfl ?_
  show wB tb k b0 [some (.int v), some (.int a), some (.int b)] h _
  unfold b0
  repeat' contradiction
  exact ⟨by rw [decide_eq_true h2], rfl⟩
theorem outwardP_ok {k : Nat} {h : Hq} {P : List Sc} {s : Nat} (G : GP P) (hs : s < P.length) : wC tb (k + 1) 1 [dP P, .int s] h fun d h' => ∃ w, d = .ref w ∧ h.length ≤ w ∧ h'[w]? = some (.lst ((out (pars P) s).map dN)) ∧ h <+: h' := by
  have hpl : (pars P).length = P.length := List.length_map _
  have hl := G.len
  refine wC_in (F := f1) rfl rfl ?_
  show wB tb k b1 [some (dP P), some (.int s), none] h _
  unfold b1
  repeat' contradiction
  rename_i h1 g1 p1
  refine wW_inv (inv := fun m ρ h' => ∃ (c : Int) (acc : List Nat), ρ = [some (dP P), some (.int c), some (.ref h.length)] ∧ m = (c + 1).toNat ∧ -1 ≤ c ∧ c < P.length ∧ h'[h.length]? = some (.lst (acc.map dN)) ∧ acc ++ outI (pars P) c = out (pars P) s ∧ h <+: h') ?_ _ _ _ ⟨s, [], rfl, rfl, by omega, by omega, g1, by rw [outI_nat]; rfl, p1⟩
  rintro m ρ h' ⟨c, acc, rfl, rfl, hc1, hc2, ha, ho, hs'⟩
  have hal : acc.length ≤ s + 1 := by
    have h2 : (out (pars P) s).length ≤ s + 1 := out_length
    rw [← ho, List.length_append] at h2
    omega
  repeat' contradiction
  · rename_i c0
    have c0' : 0 ≤ c := by have : ¬ c = -1 := c0; omega
    refine ok_app ha (by rw [dN_len]; show _ < 16777216; omega) fun h2 g2 e2 => ?_
    have s2 : h <+: h2 := by rw [e2]; exact pfx_set hs' (Nat.le_refl _)
    have hcn : c.toNat < (pars P).length := by rw [hpl]; omega
    obtain ⟨p, e3, p1, p2, p3⟩ := Pre.next G.pre hcn
    obtain ⟨sc, e4, rfl⟩ := par_get e3
    repeat' contradiction
    refine ok_ixT (atI_n c0' (dP_get e4)) ?_
    repeat' contradiction
    refine ⟨_, ?_, sc.par, acc ++ [c.toNat], rfl, rfl, p1, by omega, ?_, ?_, s2⟩
    · omega
    · rw [g2, List.map_append]
      simp [dN, Int.toNat_of_nonneg c0']
    · rw [List.append_assoc, List.singleton_append, ← p3, ← ho]
      unfold outI
      rw [if_pos c0']
  · rename_i c0
    have e : c = -1 := c0
    subst e
    rw [outI_neg, List.append_nil] at ho
    exact ⟨_, rfl, Nat.le_refl _, by rw [← ho]; exact ha, hs'⟩
theorem enumD_len : ∀ (ds : List D) (i : Nat), (enumD i ds).length = ds.length
  | [], _ => rfl
  | d :: r, i => by simp [enumD, enumD_len r (i + 1)]
theorem homes_ok {k : Nat} {h : Hq} {P : List Sc} (G : GP P) : wC tb (k + 1) 2 [dP P] h fun d h' => ∃ w, d = .ref w ∧ h.length ≤ w ∧ h'[w]? = some (.lst ((homesF 0 (cnts P)).map dN)) ∧ h <+: h' := by
  refine wC_in (F := f2) rfl rfl ?_
  show wB tb k b2 [some (dP P), none, none, none, none, none] h _
  unfold b2
  repeat' contradiction
  rename_i h1 g1 p1
  refine wF_all (items := enumD 0 (P.map dSc)) (inv := fun i ρ h' => ∃ y2 y3 y4 y5, ρ = [some (dP P), some (.ref h.length), y2, y3, y4, y5] ∧ h'[h.length]? = some (.lst ((homesF 0 ((cnts P).take i)).map dN)) ∧ h <+: h') ⟨_, _, _, _, rfl, g1, p1⟩ (fun _ _ _ _ => rfl) ?_ ?_
  · rintro i d ρ h' hi ⟨y2, y3, y4, y5, rfl, ha, hs⟩
    rw [enumD_get', Nat.zero_add] at hi
    have hi' : i < P.length := by
      cases e : (P.map dSc)[i]? with
      | none => rw [e] at hi; cases hi
      | some x => have := (List.getElem?_eq_some_iff.mp e).1; simpa using this
    have es : P[i]? = some P[i] := List.getElem?_eq_getElem hi'
    rw [dP_get es] at hi
    cases hi
    have hcl : i < (cnts P).length := by simpa using hi'
    have hct : (cnts P)[i] = P[i].cnt := by simp
    have hle : (cnts P).sum ≤ 60 := G.cnt
    have hts := take_sum_succ hcl
    have htl := take_sum_all (cnts P) (i + 1)
    rw [hct] at hts
    unfold dSc
    repeat' contradiction
    rename_i h2 g2 p2
    refine ok_rep g2 (by omega) (by simp; show _ ≤ 16777216; omega) (by omega) fun h3 g3 p3 => ?_
    have ha3 := pfx_get p3 (pfx_get p2 ha)
    have hs3 := (hs.trans p2).trans p3
    repeat' contradiction
    refine ok_ext ha3 g3 (by simp [homesF_len]; show _ ≤ 16777216; omega) fun h4 g4 e4 => ?_
    repeat' contradiction
    refine ⟨_, _, _, _, rfl, ?_, by rw [e4]; exact pfx_set hs3 (Nat.le_refl _)⟩
    rw [g4, List.take_succ_eq_append_getElem hcl, homesF_snoc, List.map_append, hct, Int.toNat_natCast]
    congr 3
    rw [List.length_take, Nat.min_eq_left (Nat.le_of_lt hcl), Nat.zero_add, List.map_replicate]
    simp
  · rintro ρ h' ⟨y2, y3, y4, y5, rfl, ha, hs⟩
    repeat' contradiction
    refine ⟨_, rfl, Nat.le_refl _, ?_, hs⟩
    rw [ha]
    congr 3
    rw [enumD_len, List.length_map, show P.length = (cnts P).length by simp, List.take_length]
theorem checkd_ok {k d : Nat} {h : Hq} {P : List Sc} (G : GP P) (hd : d < (cnts P).sum) : wC tb (k + 2) 3 [dP P, .int d] h fun _ h' => h <+: h' := by
  refine wC_in (F := f3) rfl rfl ?_
  show wB tb (k + 1) b3 [some (dP P), some (.int d)] h _
  unfold b3
  repeat' contradiction
  refine wC_mono (homes_ok G) fun r h1 ⟨w, e, _, g1, p1⟩ => ?_
  subst e
  repeat' contradiction
  rw [List.length_map, homesF_len]
  refine wC_mono (isint_ok (by omega) (by omega)) fun r h2 ⟨e1, e2⟩ => ?_
  subst e1 e2
  repeat' contradiction
  exact p1
theorem checks_ok {k s : Nat} {h : Hq} {P : List Sc} (hs : s < P.length) : wC tb (k + 2) 4 [dP P, .int s] h fun _ h' => h' = h := by
  refine wC_in (F := f4) rfl rfl ?_
  show wB tb (k + 1) b4 [some (dP P), some (.int s)] h _
  unfold b4
  unfold dP
  repeat' contradiction
  rw [List.length_map]
  refine wC_mono (isint_ok (by omega) (by omega)) fun r h2 ⟨e1, e2⟩ => ?_
  subst e1 e2
  repeat' contradiction
  rfl
theorem homeof_ok {k d : Nat} {h : Hq} {P : List Sc} (G : GP P) (hd : d < (cnts P).sum) : wC tb (k + 3) 5 [dP P, .int d] h fun r h' => r = dN (home (cnts P) d) ∧ h <+: h' := by
  refine wC_in (F := f5) rfl rfl ?_
  show wB tb (k + 2) b5 [some (dP P), some (.int d)] h _
  unfold b5
  repeat' contradiction
  refine wC_mono (checkd_ok G hd) fun r h1 p1 => ?_
  repeat' contradiction
  refine wC_mono (homes_ok G) fun r h2 ⟨w, e, _, g2, p2⟩ => ?_
  subst e
  repeat' contradiction
  refine ok_ixL g2 (L2.atI_nat (by rw [List.getElem?_map, homesF_get 0 _ _ hd, Nat.zero_add]; rfl)) ?_
  repeat' contradiction
  exact ⟨rfl, p1.trans p2⟩
theorem filter_snoc {α : Type} (p : α → Bool) (l : List α) (i : Nat) (hi : i < l.length) : (l.take (i + 1)).filter p = (l.take i).filter p ++ if p l[i] = true then [l[i]] else [] := by
  rw [List.take_succ_eq_append_getElem hi, List.filter_append]
  congr 1
  simp only [List.filter_cons, List.filter_nil]
theorem declsof_ok {k s : Nat} {h : Hq} {P : List Sc} (G : GP P) (hs : s < P.length) : wC tb (k + 3) 6 [dP P, .int s] h fun r h' => r = .tup ((List.range' ((cnts P).take s).sum P[s].cnt).map dN) ∧ h <+: h' := by
  have hle : (cnts P).sum ≤ 60 := G.cnt
  refine wC_in (F := f6) rfl rfl ?_
  show wB tb (k + 2) b6 [some (dP P), some (.int s), none, none] h _
  unfold b6
  repeat' contradiction
  refine wC_mono (checks_ok hs) fun r h1 e => ?_
  subst e
  repeat' contradiction
  refine wC_mono (homes_ok G) fun r h2 ⟨w, e, hw, g2, p2⟩ => ?_
  subst e
  repeat' contradiction
  have hlen : ((homesF 0 (cnts P)).map dN).length = (cnts P).sum := by rw [List.length_map, homesF_len]
  refine wL_all (items := enumD 0 ((homesF 0 (cnts P)).map dN)) (inv := fun i acc h' => acc = (((List.range (cnts P).sum).take i).filter fun d => decide (home (cnts P) d = s)).map dN ∧ h'[h2.length]? = some (.lst acc) ∧ h2 <+: h') ⟨rfl, new_get, pfx_new⟩ (fun i acc h' ⟨_, _, p⟩ => turn_enum (pfx_get p g2)) ?_ ?_
  · rintro i d acc h' hi ⟨rfl, hN, p⟩
    rw [enumD_get', Nat.zero_add] at hi
    have hi' : i < (cnts P).sum := by
      cases e : ((homesF 0 (cnts P)).map dN)[i]? with
      | none => rw [e] at hi; cases hi
      | some x => have := (List.getElem?_eq_some_iff.mp e).1; rw [hlen] at this; exact this
    rw [List.getElem?_map, homesF_get 0 _ _ hi', Nat.zero_add] at hi
    cases hi
    have hr : i < (List.range (cnts P).sum).length := by simpa using hi'
    have hf := filter_snoc (fun d => decide (home (cnts P) d = s)) _ i hr
    rw [List.getElem_range] at hf
    repeat' contradiction
    · rename_i c
      have c' : home (cnts P) i = s := by have : ((home (cnts P) i : Nat) : Int) = (s : Nat) := c; omega
      rw [if_pos (decide_eq_true c')] at hf
      refine ⟨hN, ?_, ?_, set_get hN, pfx_set p (Nat.le_refl _)⟩
      · have := List.length_filter_le (fun d => decide (home (cnts P) d = s)) ((List.range (cnts P).sum).take i)
        have t2 := List.length_take_le i (List.range (cnts P).sum)
        rw [List.length_map]
        show _ < 16777216
        omega
      · rw [hf, List.map_append]; rfl
    · rename_i c
      have c' : ¬ home (cnts P) i = s := fun e => c (by show ((home (cnts P) i : Nat) : Int) = (s : Nat); omega)
      rw [if_neg (by simpa using c'), List.append_nil] at hf
      exact ⟨by rw [hf], hN, p⟩
  · rintro acc h' ⟨e, hN, p⟩
    rw [enumD_len, hlen] at e
    repeat' contradiction
    refine ⟨?_, p2.trans p⟩
    have hsl : s < (cnts P).length := by simpa using hs
    have ed := decls hsl
    rw [List.take_of_length_le (by simp), ed] at e
    rw [e]
    simp
theorem enclosing_ok {k s : Nat} {h : Hq} {P : List Sc} (G : GP P) (hs : s < P.length) : wC tb (k + 3) 7 [dP P, .int s] h fun r h' => r = .tup ((out (pars P) s).map dN) ∧ h <+: h' := by
  refine wC_in (F := f7) rfl rfl ?_
  show wB tb (k + 2) b7 [some (dP P), some (.int s)] h _
  unfold b7
  repeat' contradiction
  refine wC_mono (checks_ok hs) fun r h1 e => ?_
  subst e
  repeat' contradiction
  refine wC_mono (outwardP_ok G hs) fun r h2 ⟨w, e, hw, g2, p2⟩ => ?_
  subst e
  repeat' contradiction
  exact ⟨rfl, p2⟩
theorem inner_ok {k s : Nat} {h : Hq} {P : List Sc} (G : GP P) (hs : s < P.length) : wC tb (k + 3) 8 [dP P, .int s] h fun r h' => r = .tup (((List.range P.length).filter fun i => decide (s ∈ out (pars P) i)).map dN) ∧ h <+: h' := by
  have hle : P.length ≤ 40 := G.len
  refine wC_in (F := f8) rfl rfl ?_
  show wB tb (k + 2) b8 [some (dP P), some (.int s), none] h _
  unfold b8
  repeat' contradiction
  refine wC_mono (checks_ok hs) fun r h1 e => ?_
  subst e
  unfold dP
  repeat' contradiction
  refine ok_rg1 (by omega) (by rw [List.length_map]; omega) ?_
  rw [Int.toNat_natCast, List.length_map]
  refine wL_all (items := (List.range P.length).map fun i => .int (i : Nat)) (inv := fun i acc h' => acc = (((List.range P.length).take i).filter fun d => decide (s ∈ out (pars P) d)).map dN ∧ h'[h1.length]? = some (.lst acc) ∧ h1 <+: h') ⟨rfl, new_get, pfx_new⟩ (fun _ _ _ _ => rfl) ?_ ?_
  · rintro i d acc h' hi ⟨rfl, hN, p⟩
    have hi' : i < P.length := by have := (List.getElem?_eq_some_iff.mp hi).1; simpa using this
    rw [List.getElem?_map, List.getElem?_range hi'] at hi
    cases hi
    have hr : i < (List.range P.length).length := by simpa using hi'
    have hf := filter_snoc (fun d => decide (s ∈ out (pars P) d)) _ i hr
    rw [List.getElem_range] at hf
    repeat' contradiction
    refine wC_mono (outwardP_ok G hi') fun r h3 ⟨w, e, hw, g3, p3⟩ => ?_
    subst e
    have hN3 := pfx_get p3 hN
    repeat' contradiction
    refine ok_inN g3 ?_
    refine ifB_d (fun c => ?_) (fun c => ?_)
    · rw [if_pos (decide_eq_true c)] at hf
      repeat' contradiction
      refine ⟨hN3, ?_, ?_, set_get hN3, pfx_set (p.trans p3) (Nat.le_refl _)⟩
      · have := List.length_filter_le (fun d => decide (s ∈ out (pars P) d)) ((List.range P.length).take i)
        have t2 := List.length_take_le i (List.range P.length)
        rw [List.length_map]
        show _ < 16777216
        omega
      · rw [hf, List.map_append]; rfl
    · rw [if_neg (by simpa using c), List.append_nil] at hf
      exact ⟨by rw [hf], hN3, p.trans p3⟩
  · rintro acc h' ⟨e, hN, p⟩
    simp only [List.length_map, List.length_range] at e
    repeat' contradiction
    refine ⟨?_, p⟩
    rw [e, List.take_of_length_le (by simp)]
theorem maxI_add : ∀ (x : Int) (l : List Int), maxI ((x :: l).map (· + 1)) = maxI (x :: l) + 1
  | x, [] => rfl
  | x, y :: r => by
    have ih := maxI_add y r
    show max (x + 1) (maxI ((y :: r).map (· + 1))) = max x (maxI (y :: r)) + 1
    rw [ih]
    omega
theorem height_ok {k : Nat} {h : Hq} {P : List Sc} (G : GP P) : wC tb (k + 2) 9 [dP P] h fun r h' => r = .int (maxI ((List.range P.length).map fun i => ((out (pars P) i).length : Int))) ∧ h <+: h' := by
  have hle : P.length ≤ 40 := G.len
  have hge : 0 < P.length := by have := G.pre.len; simpa using this
  refine wC_in (F := f9) rfl rfl ?_
  show wB tb (k + 1) b9 [some (dP P), none] h _
  unfold b9
  unfold dP
  repeat' contradiction
  refine ok_rg1 (by omega) (by rw [List.length_map]; omega) ?_
  rw [Int.toNat_natCast, List.length_map]
  refine wL_all (items := (List.range P.length).map fun i => .int (i : Nat)) (inv := fun i acc h' => acc = ((List.range i).map fun i => ((out (pars P) i).length : Int)).map D.int ∧ h'[h.length]? = some (.lst acc) ∧ h <+: h') ⟨rfl, new_get, pfx_new⟩ (fun _ _ _ _ => rfl) ?_ ?_
  · rintro i d acc h' hi ⟨rfl, hN, p⟩
    have hi' : i < P.length := by have := (List.getElem?_eq_some_iff.mp hi).1; simpa using this
    rw [List.getElem?_map, List.getElem?_range hi'] at hi
    cases hi
    repeat' contradiction
    refine wC_mono (outwardP_ok G hi') fun r h3 ⟨w, e, hw, g3, p3⟩ => ?_
    subst e
    have hN3 := pfx_get p3 hN
    repeat' contradiction
    refine ⟨hN3, by simp; show _ < 16777216; omega, ?_, set_get hN3, pfx_set (p.trans p3) (Nat.le_refl _)⟩
    rw [List.range_succ]
    simp
  · rintro acc h' ⟨e, hN, p⟩
    simp only [List.length_map, List.length_range] at e
    subst e
    obtain ⟨m, hm⟩ : ∃ m, P.length = m + 1 := ⟨P.length - 1, by omega⟩
    rw [hm, List.range_succ_eq_map, List.map_cons] at hN ⊢
    repeat' contradiction
    refine ok_max hN ?_
    repeat' contradiction
    exact ⟨rfl, p⟩
theorem depths_ok {k : Nat} {h : Hq} {P : List Sc} (G : GP P) : wC tb (k + 1) 17 [dP P] h fun r h' => ∃ w, r = .ref w ∧ h.length ≤ w ∧ h'[w]? = some (.lst (((List.range P.length).map (dep (pars P))).map dN)) ∧ h <+: h' := by
  have hle : P.length ≤ 40 := G.len
  have hpl : (pars P).length = P.length := List.length_map _
  refine wC_in (F := f17) rfl rfl ?_
  show wB tb k b17 [some (dP P), none, none, none, none] h _
  unfold b17
  unfold dP
  repeat' contradiction
  rename_i h1 g1 p1
  refine wF_all (items := P.map dSc) (inv := fun i ρ h' => ∃ y2 y3 y4, ρ = [some (.tup (P.map dSc)), some (.ref h.length), y2, y3, y4] ∧ h'[h.length]? = some (.lst (((List.range i).map (dep (pars P))).map dN)) ∧ h <+: h') ⟨_, _, _, rfl, g1, p1⟩ (fun _ _ _ _ => rfl) ?_ ?_
  · rintro i d ρ h' hi ⟨y2, y3, y4, rfl, hN, p⟩
    have hi' : i < P.length := by have := (List.getElem?_eq_some_iff.mp hi).1; simpa using this
    have es : P[i]? = some P[i] := List.getElem?_eq_getElem hi'
    rw [dP_get es] at hi
    cases hi
    have ep : (pars P)[i]? = some P[i].par := by rw [List.getElem?_map, es]; rfl
    unfold dSc
    have done : ∀ (h2 : Hq) (y2 y3 y4 : Option D), h2[h.length]? = some (.lst (((List.range i).map (dep (pars P))).map dN ++ [dN (dep (pars P) i)])) → h2 = h'.set h.length (.lst (((List.range i).map (dep (pars P))).map dN ++ [dN (dep (pars P) i)])) → ∃ z2 z3 z4, [some (.tup (P.map dSc)), some (.ref h.length), y2, y3, y4] = [some (.tup (P.map dSc)), some (.ref h.length), z2, z3, z4] ∧ h2[h.length]? = some (.lst (((List.range (i + 1)).map (dep (pars P))).map dN)) ∧ h <+: h2 := fun h2 y2 y3 y4 g2 e2 =>
      ⟨y2, y3, y4, rfl, by rw [g2, List.range_succ, List.map_append, List.map_append]; rfl, by rw [e2]; exact pfx_set p (Nat.le_refl _)⟩
    have Gp : Pre (pars P) := G.pre
    rcases Gp.cases (i := i) (by omega) with ⟨h0, e1, _⟩ | ⟨h0, q, e1, hq, _, _⟩
    · have e2 : P[i].par = -1 := by rw [ep] at e1; exact Option.some.inj e1
      have e3 := dep_root e1
      rw [e2]
      repeat' contradiction
      refine ok_app hN (by simp; show _ < 16777216; omega) fun h2 g2 e2 => ?_
      repeat' contradiction
      exact done h2 _ _ _ (by rw [e3]; exact g2) (by rw [e3]; exact e2)
    · have e2 : P[i].par = (q : Int) := by rw [ep] at e1; exact Option.some.inj e1
      have e3 := Gp.dep_par h0 e1
      rw [e2]
      repeat' contradiction
      refine ok_ixL hN (L2.atI_nat (v := dN (dep (pars P) q)) (by rw [List.getElem?_map, List.getElem?_map, List.getElem?_range hq]; rfl)) ?_
      repeat' contradiction
      refine ok_app hN (by simp; show _ < 16777216; omega) fun h2 g2 e2 => ?_
      repeat' contradiction
      exact done h2 _ _ _ (by rw [e3]; exact g2) (by rw [e3]; exact e2)
  · rintro ρ h' ⟨y2, y3, y4, rfl, hN, p⟩
    rw [List.length_map] at hN
    repeat' contradiction
    exact ⟨_, rfl, Nat.le_refl _, hN, p⟩
theorem span_ok {k s : Nat} {h : Hq} {P : List Sc} (G : GP P) (hs : s < P.length) : wC tb (k + 2) 16 [dP P, .int s] h fun r h' => ∃ e : Nat, r = dN e ∧ s < e ∧ e ≤ P.length ∧ (∀ j, s < j → j < e → dep (pars P) s < dep (pars P) j) ∧ (e < P.length → dep (pars P) e ≤ dep (pars P) s) ∧ h <+: h' := by
  have hle : P.length ≤ 40 := G.len
  refine wC_in (F := f16) rfl rfl ?_
  show wB tb (k + 1) b16 [some (dP P), some (.int s), none, none] h _
  unfold b16
  repeat' contradiction
  refine wC_mono (depths_ok G) fun r h1 ⟨w, e, hw, g1, p1⟩ => ?_
  subst e
  unfold dP
  repeat' contradiction
  refine wW_inv (inv := fun m ρ h' => ∃ e : Nat, ρ = [some (.tup (P.map dSc)), some (.int s), some (.ref w), some (dN e)] ∧ h' = h1 ∧ m = P.length - e ∧ s < e ∧ e ≤ P.length ∧ (∀ j, s < j → j < e → dep (pars P) s < dep (pars P) j)) ?_ _ _ _ ⟨s + 1, rfl, rfl, rfl, by omega, by omega, fun j h1 h2 => by omega⟩
  rintro m ρ h' ⟨e, rfl, rfl, rfl, h2, h3, h4⟩
  have dget : ∀ i, i < P.length → (((List.range P.length).map (dep (pars P))).map dN)[i]? = some (dN (dep (pars P) i)) := fun i hi => by rw [List.getElem?_map, List.getElem?_map, List.getElem?_range hi]; rfl
  have quit : (e < P.length → dep (pars P) e ≤ dep (pars P) s) → wB tb (k + 1) [.ret (.var 3)] [some (.tup (P.map dSc)), some (.int s), some (.ref w), some (dN e)] h' (onC fun r h'' => ∃ e : Nat, r = dN e ∧ s < e ∧ e ≤ P.length ∧ (∀ j, s < j → j < e → dep (pars P) s < dep (pars P) j) ∧ (e < P.length → dep (pars P) e ≤ dep (pars P) s) ∧ h <+: h'') := fun hq => by
    repeat' contradiction
    exact ⟨e, rfl, h2, h3, h4, hq, p1⟩
  repeat' contradiction
  · rename_i c
    have c' : e < P.length := by rw [List.length_map] at c; omega
    refine ok_ixL g1 (L2.atI_nat (dget e c')) ?_
    repeat' contradiction
    refine ok_ixL g1 (L2.atI_nat (dget s hs)) ?_
    repeat' contradiction
    · rename_i c2
      have c2' : dep (pars P) s < dep (pars P) e := by have : ((dep (pars P) s : Nat) : Int) < (dep (pars P) e : Nat) := c2; omega
      refine ⟨P.length - (e + 1), by omega, e + 1, rfl, rfl, rfl, by omega, by omega, fun j j1 j2 => ?_⟩
      by_cases hj : j = e
      · subst hj; exact c2'
      · exact h4 j j1 (by omega)
    · rename_i c2
      have c2' : dep (pars P) e ≤ dep (pars P) s := by have : ¬ ((dep (pars P) s : Nat) : Int) < (dep (pars P) e : Nat) := c2; omega
      exact ⟨e, rfl, h2, h3, h4, fun _ => c2', p1⟩
  · rename_i c
    have c' : ¬ e < P.length := by rw [List.length_map] at c; omega
    exact ⟨e, rfl, h2, h3, h4, fun hh => absurd hh c', p1⟩
theorem GP.par_small {P : List Sc} (G : GP P) {i : Nat} {s : Sc} (e : P[i]? = some s) : s.par.natAbs < 41 ∧ (s.par = -1 ∧ out (pars P) i = [i] ∨ ∃ p : Nat, s.par = p ∧ p < i ∧ out (pars P) i = i :: out (pars P) p) := by
  have hi := (List.getElem?_eq_some_iff.mp e).1
  have hl : P.length ≤ 40 := G.len
  have Gp : Pre (pars P) := G.pre
  have ep : (pars P)[i]? = some s.par := by rw [List.getElem?_map, e]; rfl
  rcases Gp.cases (i := i) (by simpa using hi) with ⟨h0, e1, e2⟩ | ⟨h0, q, e1, hq, _, e2⟩
  · have e2' : s.par = -1 := by rw [ep] at e1; exact Option.some.inj e1
    exact ⟨by rw [e2']; decide, .inl ⟨e2', e2⟩⟩
  · have e2' : s.par = (q : Int) := by rw [ep] at e1; exact Option.some.inj e1
    exact ⟨by omega, .inr ⟨q, e2', hq, e2⟩⟩
theorem GP.cnt_small {P : List Sc} (G : GP P) {s : Sc} (hs : s ∈ P) : s.cnt ≤ 60 := by
  have h1 : (cnts P).sum ≤ 60 := G.cnt
  have h2 : s.cnt ≤ (cnts P).sum := mem_sum (List.mem_map.mpr ⟨s, hs, rfl⟩)
  omega
theorem GP.uses_few {P : List Sc} (G : GP P) {s : Sc} (hs : s ∈ P) : s.uses.length ≤ 40 := by
  have h1 := G.few
  have h2 := mem_sum (List.mem_map.mpr ⟨s, hs, rfl⟩ : s.uses.length ∈ P.map fun s => s.uses.length)
  omega
theorem GP.uses_small {P : List Sc} (G : GP P) {s : Sc} (hs : s ∈ P) : ∀ d ∈ s.uses, d < 60 := fun d hd => by
  obtain ⟨i, e⟩ := List.mem_iff_getElem?.mp hs
  have h1 : (cnts P).sum ≤ 60 := G.cnt
  have h2 : d < (cnts P).sum := (G.ok i s e d hd).1
  omega
theorem rep_dP {P : List Sc} (G : GP P) : Rep (dP P) := by
  have hl : P.length ≤ 40 := G.len
  have wt : ∀ s ∈ P, wtD (dSc s) ≤ 1800 := fun s hs => by
    have h1 := wt_nats s.uses
    have h2 := G.uses_few hs
    simp only [dSc, wtD, wtDs] at h1 ⊢
    omega
  refine rep_sm ?_ ?_ ?_
  · simp only [dP, smD]
    refine smDs_all fun d hd => ?_
    obtain ⟨s, hs, rfl⟩ := List.mem_map.mp hd
    obtain ⟨i, e⟩ := List.mem_iff_getElem?.mp hs
    have h1 := (G.par_small e).1
    have h2 := G.cnt_small hs
    have h3 := sm_nats (xs := s.uses) fun x hx => Nat.lt_of_lt_of_le (G.uses_small hs x hx) (by decide)
    simp only [dSc, smD, smDs, Bool.and_eq_true, decide_eq_true_eq] at h3 ⊢
    have e12 : (10 : Nat) ^ 12 = 1000000000000 := by decide
    exact ⟨by omega, by omega, h3, trivial⟩
  · simp only [dP, wtD]
    have := wtDs_all (n := 1800) (ds := P.map dSc) fun d hd => by
      obtain ⟨s, hs, rfl⟩ := List.mem_map.mp hd
      exact wt s hs
    rw [List.length_map] at this
    have e20 : (2 : Nat) ^ 20 = 1048576 := by decide
    omega
  · simp only [dP, dpD]
    have := dpDs_all (n := 2) (ds := P.map dSc) fun d hd => by
      obtain ⟨s, hs, rfl⟩ := List.mem_map.mp hd
      have := dp_nats s.uses
      simp only [dSc, dpD, dpDs] at this ⊢
      omega
    omega
theorem right_ok {k : Nat} {h : Hq} {P : List Sc} (G : GP P) : wC tb (k + 4) 18 [dP P] h fun r h' => r = .bl true ∧ h <+: h' := by
  have hl : P.length ≤ 40 := G.len
  have hc : (cnts P).sum ≤ 60 := G.cnt
  have Gp : Pre (pars P) := G.pre
  have hpl : (pars P).length = P.length := List.length_map _
  have hcl : (cnts P).length = P.length := List.length_map _
  have hge : 0 < P.length := by have := Gp.len; omega
  refine wC_in (F := f18) rfl rfl ?_
  show wB tb (k + 3) b18 [some (dP P), none, none, none, none, none, none, none, none, none, none] h _
  unfold b18
  repeat' contradiction
  refine ok_repr (rep_dP G) ?_
  repeat' contradiction
  refine wC_mono (depths_ok G) fun r h1 ⟨w, e, hw, g1, p1⟩ => ?_
  subst e
  refine wE_cst ?_
  refine onR_nx ?_
  refine wB_cons (wS_for (wI_enum (wE_var rfl ?_)))
  unfold dP
  refine ok_enT ?_
  refine wF_all (items := enumD 0 (P.map dSc)) (inv := fun i ρ h' => ∃ y4 y5 y6 y7 y8 y9 y10, ρ = [some (.tup (P.map dSc)), some (.str (pyD (.tup (P.map dSc))).shown), some (.ref w), some (dN ((cnts P).take i).sum), y4, y5, y6, y7, y8, y9, y10] ∧ h1 <+: h') ⟨_, _, _, _, _, _, _, rfl, List.prefix_refl _⟩ (fun _ _ _ _ => rfl) ?_ ?_
  · rintro i d ρ h' hi ⟨y4, y5, y6, y7, y8, y9, y10, rfl, hs⟩
    rw [enumD_get', Nat.zero_add] at hi
    have hi' : i < P.length := by
      cases e : (P.map dSc)[i]? with
      | none => rw [e] at hi; cases hi
      | some x => have := (List.getElem?_eq_some_iff.mp e).1; simpa using this
    have es : P[i]? = some P[i] := List.getElem?_eq_getElem hi'
    rw [dP_get es] at hi
    cases hi
    have hmem : P[i] ∈ P := List.getElem_mem hi'
    have hts := take_sum_succ (cs := cnts P) (s := i) (by omega)
    have htl := take_sum_all (cnts P) (i + 1)
    have hct : (cnts P)[i] = P[i].cnt := by simp
    rw [hct] at hts
    have ep := G.par_small es
    show wA tb (k + 3) _ (.tup [.int (i : Nat), .tup [.int P[i].par, dN P[i].cnt, .tup (P[i].uses.map dN)]]) _ h' _
    repeat' contradiction
    rw [← Int.natCast_add]
    refine ok_rngT2 (by omega) (by omega) (by show _ ≤ 16777216; omega) ?_
    rw [Nat.add_sub_cancel_left]
    repeat' contradiction
    refine wC_mono (declsof_ok G hi') fun r h2 ⟨e, p2⟩ => ?_
    subst e
    have hb : ∀ x ∈ List.range' ((cnts P).take i).sum P[i].cnt, x < (cnts P).sum ∧ home (cnts P) x = i := fun x hx => by
      have h1 := List.mem_range'_1.mp hx
      have h2 : x < (cnts P).sum := by omega
      exact ⟨h2, (home_iff (cnts P) i x h2).mpr ⟨h1.1, by omega⟩⟩
    have r1 : Rep (.tup ((List.range' ((cnts P).take i).sum P[i].cnt).map dN)) := rep_nats (fun x hx => Nat.lt_of_lt_of_le (hb x hx).1 (by omega)) (by rw [List.length_range']; omega)
    repeat' contradiction
    refine ok_repr r1 ?_
    repeat' contradiction
    refine ok_repr r1 ?_
    repeat' contradiction
    -- any(home_of(one) != scope)
    refine wL_all (items := (List.range' ((cnts P).take i).sum P[i].cnt).map fun i => .int (i : Nat)) (inv := fun j acc h'' => acc = (List.replicate j false).map D.bl ∧ h''[h2.length]? = some (.lst acc) ∧ h2 <+: h'') ⟨rfl, new_get, pfx_new⟩ (fun _ _ _ _ => rfl) ?_ ?_
    · rintro j d acc h3 hj ⟨rfl, hN, p3⟩
      have hj' : j < P[i].cnt := by have := (List.getElem?_eq_some_iff.mp hj).1; simpa using this
      have ex : (List.range' ((cnts P).take i).sum P[i].cnt)[j]? = some (((cnts P).take i).sum + j) := by rw [List.getElem?_range' hj']; simp
      rw [List.getElem?_map, ex] at hj
      cases hj
      have hx := hb _ (List.mem_of_getElem? ex)
      repeat' contradiction
      refine wC_mono (homeof_ok G hx.1) fun r h4 ⟨e, p4⟩ => ?_
      subst e
      rw [hx.2]
      have hN4 := pfx_get p4 hN
      repeat' contradiction
      refine ⟨hN4, by simp; show _ < 16777216; omega, ?_, set_get hN4, pfx_set (p3.trans p4) (Nat.le_refl _)⟩
      rw [List.replicate_succ', List.map_append]
      congr 2
      simp
    · rintro acc h3 ⟨e, hN, p3⟩
      subst e
      repeat' contradiction
      refine ok_any hN ?_
      repeat' contradiction
      rw [show (List.replicate ((List.range' ((cnts P).take i).sum P[i].cnt).map fun i => D.int (i : Nat)).length false).any id = false from by simp]
      have h23 := p2.trans p3
      have h13 := hs.trans h23
      have tail : ∀ {Kq : R → Prop} (x3 x5 x6 x7 x8 x10 : Option D) (h3 : Hq), h1 <+: h3 → (∀ ρ h4, ρ = [some (.tup (P.map dSc)), some (.str (pyD (.tup (P.map dSc))).shown), some (.ref w), x3, some (dN i), x5, x6, x7, x8, some (.tup ((out (pars P) i).map dN)), x10] → h1 <+: h4 → Kq (.nx ρ h4)) →
          wB tb (k + 3) [(.iff (.or (.cmp .ne (.bi .repr [(.call 7 [(.var 0), (.var 4)])]) (.bi .repr [(.var 9)])) (.one (.cmp .ne (.bi .len [(.var 9)]) (.op .add (.ix (.var 2) (.var 4)) (.cst (.int 1)))))) [(.ret (.cst (.bl false)))] []),
            (.iff (.cmp .ne (.bi .repr [(.call 8 [(.var 0), (.var 4)])]) (.bi .repr [(.rng .tuple [(.var 4), (.call 16 [(.var 0), (.var 4)])])])) [(.ret (.cst (.bl false)))] [])] [some (.tup (P.map dSc)), some (.str (pyD (.tup (P.map dSc))).shown), some (.ref w), x3, some (dN i), x5, x6, x7, x8, some (.tup ((out (pars P) i).map dN)), x10] h3 Kq := by
        intro Kq x3 x5 x6 x7 x8 x10 h3 h13 hK
        have ro : Rep (.tup ((out (pars P) i).map dN)) := rep_nats (fun x hx => Nat.lt_of_lt_of_le (show x < 41 by have := out_le _ _ hx; omega) (by decide)) (by have := out_length (ps := pars P) (s := i); omega)
        repeat' contradiction
        refine wC_mono (enclosing_ok G hi') fun r h4 ⟨e, p4⟩ => ?_
        subst e
        repeat' contradiction
        refine ok_repr ro ?_
        repeat' contradiction
        refine ok_repr ro ?_
        have g4 := pfx_get (h13.trans p4) g1
        repeat' contradiction
        refine ok_ixL g4 (L2.atI_nat (v := dN (dep (pars P) i)) (by rw [List.getElem?_map, List.getElem?_map, List.getElem?_range hi']; rfl)) ?_
        repeat' contradiction
        · rename_i c
          refine absurd ?_ c
          rw [List.length_map, out_len]
          rfl
        · refine wC_mono (inner_ok G hi') fun r h5 ⟨e, p5⟩ => ?_
          subst e
          have rf : ∀ xs : List Nat, (∀ x ∈ xs, x < 41) → xs.length ≤ 41 → Rep (.tup (xs.map dN)) := fun xs h1 h2 => rep_nats (fun x hx => Nat.lt_of_lt_of_le (h1 x hx) (by decide)) (by omega)
          repeat' contradiction
          refine ok_repr (rf _ (fun x hx => by have := List.mem_range.mp (List.mem_filter.mp hx).1; omega) (by have := List.length_filter_le (fun j => decide (i ∈ out (pars P) j)) (List.range P.length); rw [List.length_range] at this; omega)) ?_
          repeat' contradiction
          refine wC_mono (span_ok G hi') fun r h6 ⟨e, er, e1, e2, e3, e4, p6⟩ => ?_
          subst er
          have ei := Gp.inner (s := i) (e := e) (by omega) e1 (by omega) e3 (by rw [hpl]; exact e4)
          rw [hpl] at ei
          rw [ei]
          repeat' contradiction
          refine ok_rngT2 (by omega) (by omega) (by show _ ≤ 16777216; omega) ?_
          repeat' contradiction
          refine ok_repr (rf _ (fun x hx => by have := List.mem_range'_1.mp hx; omega) (by rw [List.length_range']; omega)) ?_
          repeat' contradiction
          exact hK _ _ rfl (((h13.trans p4).trans p5).trans p6)
      have hsum : (((cnts P).take i).sum : Int) + (P[i].cnt : Int) = (((cnts P).take (i + 1)).sum : Nat) := by rw [hts, Int.natCast_add]
      have last : ∀ (ρ : Lo) (h4 : Hq) (x5 x6 x7 x8 x10 : Option D), ρ = [some (.tup (P.map dSc)), some (.str (pyD (.tup (P.map dSc))).shown), some (.ref w), some (dN ((cnts P).take (i + 1)).sum), some (dN i), x5, x6, x7, x8, some (.tup ((out (pars P) i).map dN)), x10] → h1 <+: h4 → ∃ y4 y5 y6 y7 y8 y9 y10, ρ = [some (.tup (P.map dSc)), some (.str (pyD (.tup (P.map dSc))).shown), some (.ref w), some (dN ((cnts P).take (i + 1)).sum), y4, y5, y6, y7, y8, y9, y10] ∧ h1 <+: h4 := fun ρ h4 x5 x6 x7 x8 x10 e p => ⟨_, _, _, _, _, _, _, e, p⟩
      repeat' contradiction
      · rename_i c
        rcases ep.2 with ⟨e1, _⟩ | ⟨q, e1, hq, eo⟩
        · rw [e1] at c
          exact absurd (show (0 : Int) ≤ -1 from c) (by decide)
        · rw [e1, hsum]
          refine wC_mono (enclosing_ok G (s := q) (by omega)) fun r h4 ⟨e, p4⟩ => ?_
          subst e
          have h14 := h13.trans p4
          refine ok_tupcat (by rw [List.length_map]; have := out_length (ps := pars P) (s := q); show 1 + _ ≤ 16777216; omega) ?_
          refine wA_name (onR_nx ?_)
          show wB tb (k + 3) _ [some (.tup (P.map dSc)), some (.str (pyD (.tup (P.map dSc))).shown), some (.ref w), some (dN ((cnts P).take (i + 1)).sum), some (dN i), some (.int (q : Int)), some (dN P[i].cnt), some (.tup (P[i].uses.map dN)), some (.tup ((List.range' ((cnts P).take i).sum P[i].cnt).map dN)), some (.tup ([dN i] ++ (out (pars P) q).map dN)), y10] h4 _
          rw [show [dN i] ++ (out (pars P) q).map dN = (out (pars P) i).map dN by rw [eo]; rfl]
          exact tail _ _ _ _ _ _ h4 h14 fun ρ h5 e p => last ρ h5 _ _ _ _ _ e p
      · rename_i c
        rcases ep.2 with ⟨e1, eo⟩ | ⟨q, e1, hq, eo⟩
        · rw [hsum]
          refine ok_tupcat (by show 1 + 0 ≤ 16777216; decide) ?_
          refine wA_name (onR_nx ?_)
          show wB tb (k + 3) _ [some (.tup (P.map dSc)), some (.str (pyD (.tup (P.map dSc))).shown), some (.ref w), some (dN ((cnts P).take (i + 1)).sum), some (dN i), some (.int P[i].par), some (dN P[i].cnt), some (.tup (P[i].uses.map dN)), some (.tup ((List.range' ((cnts P).take i).sum P[i].cnt).map dN)), some (.tup ([dN i] ++ [])), y10] h3 _
          rw [show [dN i] ++ [] = (out (pars P) i).map dN by rw [eo]; rfl]
          exact tail _ _ _ _ _ _ h3 h13 fun ρ h4 e p => last ρ h4 _ _ _ _ _ e p
        · exact absurd (show (0 : Int) ≤ P[i].par by omega) c
  · rintro ρ h' ⟨y4, y5, y6, y7, y8, y9, y10, rfl, hs⟩
    have g2 := pfx_get hs g1
    repeat' contradiction
    refine wC_mono (height_ok G) fun r h2 ⟨e, p2⟩ => ?_
    subst e
    have hout : ∀ i, ((out (pars P) i).length : Int) = (dep (pars P) i : Int) + 1 := fun i => by rw [out_len]; rfl
    have emax : (maxI ((List.range P.length).map fun i => ((out (pars P) i).length : Int))) = maxI ((List.range P.length).map fun i => (dep (pars P) i : Int)) + 1 := by
      obtain ⟨m, hm⟩ : ∃ m, P.length = m + 1 := ⟨P.length - 1, by omega⟩
      rw [hm, List.range_succ_eq_map, List.map_cons, List.map_cons, ← maxI_add, List.map_cons, List.map_map, List.map_map, List.map_map, hout]
      congr 2
      refine List.map_congr_left fun i _ => ?_
      exact hout _
    have hsmall : (maxI ((List.range P.length).map fun i => (dep (pars P) i : Int)) + 1).natAbs < 10 ^ 12 := by
      obtain ⟨m, hm⟩ : ∃ m, P.length = m + 1 := ⟨P.length - 1, by omega⟩
      have hsp := maxI_spec (dep (pars P) 0 : Int) ((List.range m).map fun i => (dep (pars P) (i + 1) : Int))
      have e : ((List.range P.length).map fun i => (dep (pars P) i : Int)) = (dep (pars P) 0 : Int) :: ((List.range m).map fun i => (dep (pars P) (i + 1) : Int)) := by
        rw [hm, List.range_succ_eq_map, List.map_cons, List.map_map]; rfl
      rw [← e] at hsp
      obtain ⟨x, hx, ex⟩ := List.mem_map.mp hsp.1
      have hx := List.mem_range.mp hx
      have h3 := out_length (ps := pars P) (s := x)
      rw [out_len] at h3
      rw [← ex]
      omega
    repeat' contradiction
    refine ok_repr (rep_int (by rw [emax]; exact hsmall)) ?_
    have g3 := pfx_get p2 g2
    repeat' contradiction
    have eml : ((List.range P.length).map (dep (pars P))).map dN = ((dep (pars P) 0 : Int) :: ((List.range (P.length - 1)).map fun i => (dep (pars P) (i + 1) : Int))).map D.int := by
      obtain ⟨m, hm⟩ : ∃ m, P.length = m + 1 := ⟨P.length - 1, by omega⟩
      rw [hm, Nat.add_sub_cancel, List.range_succ_eq_map, List.map_cons, List.map_map, List.map_cons, List.map_cons, List.map_map, List.map_map]
      rfl
    have eml2 : (dep (pars P) 0 : Int) :: ((List.range (P.length - 1)).map fun i => (dep (pars P) (i + 1) : Int)) = (List.range P.length).map fun i => (dep (pars P) i : Int) := by
      obtain ⟨m, hm⟩ : ∃ m, P.length = m + 1 := ⟨P.length - 1, by omega⟩
      rw [hm, Nat.add_sub_cancel, List.range_succ_eq_map, List.map_cons, List.map_map]
      rfl
    rw [eml] at g3
    refine ok_max g3 ?_
    rw [eml2]
    repeat' contradiction
    refine ok_repr (rep_int hsmall) ?_
    rw [emax]
    repeat' contradiction
    refine ok_repr (rep_dP G) ?_
    repeat' contradiction
    refine ⟨?_, (p1.trans hs).trans p2⟩
    rw [decide_eq_true]
    rfl
@[irreducible] def E60 : Int := 10 ^ 60
theorem e60 : ((10 : Int) ^ 60) = E60 := by unfold E60; rfl
theorem e60_pos : 0 < E60 * E60 * E60 * E60 := by unfold E60; decide +kernel
theorem e60_l1 : E60.natAbs.log2 < 1000 := by unfold E60; decide +kernel
theorem e60_l2 : (E60 * E60).natAbs.log2 < 1000 := by unfold E60; decide +kernel
theorem e60_l3 : (E60 * E60 * E60).natAbs.log2 < 1000 := by unfold E60; decide +kernel
theorem e60_l4 : (E60 * E60 * E60 * E60).natAbs < 2 ^ 1000 := by unfold E60; decide +kernel
theorem e60_small {g : Int} (h0 : 0 ≤ g) (h : g < E60 * E60 * E60 * E60) : g.natAbs.log2 < 1000 := by
  have e := e60_l4
  have e2 : g.natAbs < 2 ^ 1000 := by
    refine Nat.lt_of_le_of_lt ?_ e
    revert h
    generalize E60 * E60 * E60 * E60 = E
    intro h
    omega
  by_cases hz : g.natAbs = 0
  · rw [hz]; decide
  · exact (Nat.log2_lt hz).mpr e2
theorem hand_ok {k kk : Nat} {h : Hq} {ns : List Int} (h0 : h[0]? = some (.ro (ns.map .int))) (hk : kk < 64) : wC tb (k + 1) 10 [.ref 0, .int kk] h fun r h' => ∃ n, r = .ref n ∧ h.length ≤ n ∧ Hand h' n 0 ∧ h <+: h' := by
  refine wC_in (F := f10) rfl rfl ?_
  show wB tb k b10 [some (.ref 0), some (.int kk), none, none] h _
  unfold b10
  -- the cell
  have cell : ∀ {Q : D → Hq → Prop}, (∀ c : Int, Q (.int c) h) → wE tb k (.ite (.cmp .lt (.var 1) (.bi .len [(.var 0)])) (.ix (.var 0) (.var 1)) (.op .add (.op .mul (.cst (.int 7)) (.var 1)) (.cst (.int 3)))) [some (.ref 0), some (.int kk), none, none] h Q := fun {Q} q => by
    refine wE_ite <| wT_cmp <| wE_var rfl <| wE_bi <| wEs_cons <| wE_var rfl <| wEs_nil <| ok_lenR h0 <| ok_ltI <| ifB_d (fun c => ?_) (fun c => ?_)
    · have c' : kk < ns.length := by rw [List.length_map] at c; omega
      refine wE_ix <| wE_var rfl <| wE_var rfl <| ok_ixR h0 (L2.atI_nat (v := .int ns[kk]) (by rw [List.getElem?_map, List.getElem?_eq_getElem c']; rfl)) ?_
      exact q _
    · refine wE_op (wE_op (wE_cst (wE_var rfl (ok_mul (by decide) (by omega) (wE_cst (ok_addI ?_))))))
      exact q _
  refine wB_cons (wS_asg (cell fun c => ?_))
  have great : ∀ {Q : D → Hq → Prop} {ρ : Lo}, ρ[2]? = some (some (.int c)) → (∀ g : Int, 0 ≤ g → Q (.int g) h) → wE tb k (.op .mul (.op .mod (.bi .abs [(.var 2)]) (.op .mul (.op .mul (.op .mul (.op .pow (.cst (.int 10)) (.cst (.int 60))) (.op .pow (.cst (.int 10)) (.cst (.int 60)))) (.op .pow (.cst (.int 10)) (.cst (.int 60)))) (.op .pow (.cst (.int 10)) (.cst (.int 60))))) (.bi .int [(.cmp .ge (.bi .abs [(.var 2)]) (.op .pow (.cst (.int 10)) (.cst (.int 18))))])) ρ h Q := fun {Q ρ} hρ q => by
    have pw : ∀ {Q : D → Hq → Prop}, Q (.int E60) h → wE tb k (.op .pow (.cst (.int 10)) (.cst (.int 60))) ρ h Q := fun q => wE_op (wE_cst (wE_cst (ok_pow (j := 60) (by decide) (by decide) (by rw [e60]; exact q))))
    refine wE_op <| wE_op <| wE_bi <| wEs_cons <| wE_var hρ <| wEs_nil <| ok_abs ?_
    refine wE_op <| wE_op <| wE_op <| pw <| pw <| ok_mulF e60_l1 e60_l1 <| pw <| ok_mulF e60_l2 e60_l1 <| pw <| ok_mulF e60_l3 e60_l1 ?_
    refine ok_mod e60_pos ?_
    have m1 := Int.emod_nonneg (c.natAbs : Int) (Int.ne_of_gt e60_pos)
    have m2 := Int.emod_lt_of_pos (c.natAbs : Int) e60_pos
    have m3 := e60_small m1 m2
    revert m1 m3
    generalize (c.natAbs : Int) % (E60 * E60 * E60 * E60) = g
    intro m1 m3
    refine wE_bi <| wEs_cons <| wE_cmp <| wE_bi <| wEs_cons <| wE_var hρ <| wEs_nil <| ok_abs ?_
    refine wE_op <| wE_cst <| wE_cst <| ok_pow (j := 18) (by decide) (by decide) <| ok_geI <| wEs_nil <| ok_intB ?_
    refine ok_mulF m3 ?_ (q _ (Int.mul_nonneg m1 (by split <;> decide)))
    split <;> decide
  refine wA_name (onR_nx (wB_cons (wS_asg (great rfl fun g hg => ?_))))
  have t1 : 0 ≤ 104729 * (kk : Int) * (kk : Int) := Int.mul_nonneg (by omega) (by omega)
  have t2 : 104729 * (kk : Int) * (kk : Int) ≤ 104729 * 64 * 64 := Int.mul_le_mul (by omega) (by omega) (by omega) (by omega)
  repeat' contradiction
  rename_i h1 g1 p1
  refine ⟨_, rfl, Nat.le_refl _, ⟨g, _, 0, g1, hg, ?_, ?_, by decide, by decide⟩, p1⟩
  · omega
  · omega
/-- a chain -/
def chainP (cs : List Nat) : List Sc := (List.range cs.length).map fun (i : Nat) => ⟨((i : Nat) : Int) - 1, cs.getD i 0, []⟩
theorem chain_pars (cs : List Nat) : pars (chainP cs) = (List.range cs.length).map fun (i : Nat) => ((i : Nat) : Int) - 1 := by
  unfold pars chainP
  rw [List.map_map]; rfl
theorem chain_cnts (cs : List Nat) : cnts (chainP cs) = cs := by
  unfold cnts chainP
  rw [List.map_map]
  refine List.ext_getElem (by simp) fun i h1 h2 => ?_
  simp [List.getElem?_eq_getElem h2]
theorem chain_gp {cs : List Nat} (h0 : 0 < cs.length) (h1 : cs.length ≤ 40) (h2 : ∀ c ∈ cs, c ≤ 1) : GP (chainP cs) := by
  have hl : (chainP cs).length = cs.length := by unfold chainP; simp
  have hu : ∀ s ∈ chainP cs, s.uses = [] := fun s hs => by
    unfold chainP at hs
    obtain ⟨i, _, rfl⟩ := List.mem_map.mp hs
    rfl
  have hs : ∀ l : List Nat, (∀ c ∈ l, c ≤ 1) → l.sum ≤ l.length := fun l => by
    induction l with
    | nil => simp
    | cons c r ih =>
      intro h
      have a := h c List.mem_cons_self
      have b := ih fun x hx => h x (List.mem_cons_of_mem _ hx)
      simp only [List.sum_cons, List.length_cons]; omega
  have hp : Pre (pars (chainP cs)) := by
    rw [chain_pars]
    refine ⟨?_, fun i h3 h4 => ⟨i - 1, ?_, ?_⟩⟩
    · rw [List.getElem?_map, List.getElem?_range h0]; rfl
    · have h5 : i < cs.length := by simpa using h4
      rw [List.getElem?_map, List.getElem?_range h5]
      simp only [Option.map_some]
      congr 1
      omega
    · exact out_self
  refine ⟨hp, by omega, ?_, fun s hs => by rw [hu s hs]; exact List.Pairwise.nil, fun i s e d hd => ?_, ?_⟩
  · have := hs cs h2
    have e := chain_cnts cs
    unfold cnts at e
    rw [e]; omega
  · rw [hu s (List.mem_of_getElem? e)] at hd
    cases hd
  · have z : ∀ l : List Sc, (∀ s ∈ l, s.uses = []) → (l.map fun s => s.uses.length).sum = 0 := fun l => by
      induction l with
      | nil => intro _; rfl
      | cons c r ih =>
        intro h
        rw [List.map_cons, List.sum_cons, h c List.mem_cons_self, ih fun x hx => h x (List.mem_cons_of_mem _ hx)]
        rfl
    rw [z _ hu]; omega
theorem k02_says : Z.Says tb 30 19 63 := fun ns hl => by
  have one : GP [⟨-1, 0, []⟩] := by
    refine ⟨Pre.one, by decide, by decide, fun s hs => ?_, fun i s e d hd => ?_, by decide⟩
    · rw [List.mem_singleton.mp hs]; exact List.Pairwise.nil
    · have := List.mem_of_getElem? e
      rw [List.mem_singleton.mp this] at hd
      cases hd
  have main : wC tb 30 19 [.ref 0] [.ro (ns.map .int)] fun r _ => r = .bl true := by
    refine wC_in (F := f19) rfl rfl ?_
    show wB tb 29 b19 [some (.ref 0), none, none, none, none, none, none, none] [.ro (ns.map .int)] _
    unfold b19
    repeat' contradiction
    refine wC_mono (right_ok (k := 25) one) fun r h1 ⟨e, p1⟩ => ?_
    subst e
    have g0 : h1[0]? = some (.ro (ns.map .int)) := pfx_get p1 rfl
    repeat' contradiction
    refine ok_rg1 (by omega) (by omega) ?_
    have hM : (max 1 (min 3 ((ns.map D.int).length : Int))).toNat ≤ 3 := by omega
    generalize (max 1 (min 3 ((ns.map D.int).length : Int))).toNat = M at hM
    refine wF_all (items := (List.range M).map fun i => .int (i : Nat)) (inv := fun i ρ h' => ∃ y1 y2 y3 y4 y5 y6 y7, ρ = [some (.ref 0), y1, y2, y3, y4, y5, y6, y7] ∧ h'[0]? = some (.ro (ns.map .int))) ⟨_, _, _, _, _, _, _, rfl, g0⟩ (fun _ _ _ _ => rfl) ?_ ?_
    · rintro i d ρ h' hi ⟨y1, y2, y3, y4, y5, y6, y7, rfl, g0⟩
      have hi' : i < M := by have := (List.getElem?_eq_some_iff.mp hi).1; simpa using this
      rw [List.getElem?_map, List.getElem?_range hi'] at hi
      cases hi
      have hlen0 := lt_get g0
      refine wA_name <| wB_cons <| wS_asg <| wE_call <| wEs_cons <| wE_var rfl <| wEs_cons <| wE_var rfl <| wEs_nil ?_
      refine wC_mono (hand_ok g0 (by omega)) fun r h2 ⟨n, e, hn, hd2, p2⟩ => ?_
      subst e
      have g2 := pfx_get p2 g0
      refine wA_name <| onR_nx <| wB_cons <| wS_asg <| wE_op <| wE_cst <| wE_call <| wEs_cons <| wE_var rfl <| wEs_cons <| wE_cst <| wEs_nil ?_
      refine wC_mono (take_ok hd2 (by decide) (by decide) (by decide)) fun d h3 ⟨m, e, hm, hd3, s3⟩ => ?_
      subst e
      have g3 := s3.get 0 _ (by omega) g2
      refine ok_addI (wA_name (onR_nx (wB_cons (wS_asg (wE_bi (wEs_cons (wE_lc (wI_range (wEs_cons (wE_var rfl (wEs_nil ?_))))))))))) 
      refine ok_rg1 (by omega) (by omega) ?_
      rw [show (1 + (m : Int)).toNat = m + 1 by omega]
      have hm' : m < 40 := by omega
      have hn3 := hd3.lt
      refine wL_all (items := (List.range (m + 1)).map fun i => .int (i : Nat)) (inv := fun i acc h'' => ∃ cs : List Nat, cs.length = i ∧ (∀ c ∈ cs, c ≤ 1) ∧ acc = (chainP cs).map dSc ∧ h''[h3.length]? = some (.lst acc) ∧ Hand h'' n (1 + i) ∧ Hs n h3 h'') ⟨[], rfl, by simp, rfl, new_get, by simpa using hd3.pfx pfx_new, .pfx pfx_new⟩ (fun _ _ _ _ => rfl) ?_ ?_
      · rintro j d acc h4 hj ⟨cs, hcl, hc1, rfl, hN, hd4, s4⟩
        have hj' : j < m + 1 := by have := (List.getElem?_eq_some_iff.mp hj).1; simpa using this
        rw [List.getElem?_map, List.getElem?_range hj'] at hj
        cases hj
        refine wA_name ?_
        show wE tb 29 _ _ h4 _
        refine wE_tup <| wEs_cons <| wE_op <| wE_var rfl <| wE_cst <| ok_subI <| wEs_cons <| wE_call <| wEs_cons <| wE_var rfl <| wEs_cons <| wE_cst <| wEs_nil ?_
        refine wC_mono (take_ok hd4 (by omega) (by decide) (by decide)) fun d h5 ⟨c, e, hc, hd5, s5⟩ => ?_
        subst e
        have hN5 := s5.get _ _ (by omega) hN
        refine wEs_cons (wE_tup (wEs_nil (and_le rfl (wEs_nil (and_le rfl ?_)))))
        have ecs : (chainP (cs ++ [c])).map dSc = (chainP cs).map dSc ++ [.tup [.int ((j : Int) - 1), .int (c : Int), .tup []]] := by
          unfold chainP
          rw [List.map_map, List.map_map, List.length_append, List.length_singleton, List.range_succ, List.map_append, hcl]
          congr 1
          · refine List.map_congr_left fun i hi => ?_
            have hi := List.mem_range.mp hi
            simp only [Function.comp]
            rw [show (cs ++ [c]).getD i 0 = cs.getD i 0 by rw [List.getD_eq_getElem?_getD, List.getD_eq_getElem?_getD, List.getElem?_append_left (by omega)]]
          · simp only [List.map_cons, List.map_nil, Function.comp]
            rw [show (cs ++ [c]).getD j 0 = c by rw [List.getD_eq_getElem?_getD, ← hcl, List.getElem?_append_right (Nat.le_refl _), Nat.sub_self]; rfl]
            rfl
        have hl3 := s4.len
        have hl4 := lt_get hN
        refine ⟨hN5, by unfold chainP; simp; show _ < 16777216; omega, cs ++ [c], by simp [hcl], ?_, ecs.symm, set_get hN5, ?_, ?_⟩
        · intro x hx
          rcases List.mem_append.mp hx with hx | hx
          · exact hc1 x hx
          · rw [List.mem_singleton.mp hx]; omega
        · refine ((hd5.hs (w := h3.length) .set (by omega)).mono ?_)
          omega
        · exact (s4.trans s5).beyond (Nat.le_refl _)
      · rintro acc h4 ⟨cs, hcl, hc1, e, hN, hd4, s4⟩
        subst e
        have hcl : cs.length = m + 1 := by simpa using hcl
        have hd4 : Hand h4 n 50 := hd4.mono (by simp; omega)
        have g4 := s4.get 0 _ (by omega) g3
        have G1 : GP (chainP cs) := chain_gp (by omega) (by omega) hc1
        refine wEs_nil <| ok_tupL hN <| wA_name <| onR_nx <| wB_cons <| wS_asg <| wE_lst' <| wEs_cons <| wE_var rfl <| wEs_cons <| wE_call <| wEs_cons <| wE_var rfl <| wEs_cons <| wE_cst <| wEs_cons <| wE_cst <| wEs_cons <| wE_cst <| wEs_nil ?_
        refine wC_mono (program_ok (b := 50) hd4 (by decide) (by decide) (by decide) (by decide) (by decide)) fun d h5 ⟨P2, e, G2, hd5, s5⟩ => ?_
        subst e
        refine wEs_cons <| wE_call <| wEs_cons <| wE_var rfl <| wEs_cons <| wE_cst <| wEs_cons <| wE_cst <| wEs_cons <| wE_cst <| wEs_nil ?_
        refine wC_mono (program_ok hd5 (by decide) (by decide) (by decide) (by decide) (by decide)) fun d h6 ⟨P3, e, G3, hd6, s6⟩ => ?_
        subst e
        refine wEs_cons <| wE_call <| wEs_cons <| wE_var rfl <| wEs_cons <| wE_cst <| wEs_cons <| wE_cst <| wEs_cons <| wE_cst <| wEs_nil ?_
        refine wC_mono (program_ok hd6 (by decide) (by decide) (by decide) (by decide) (by decide)) fun d h7 ⟨P4, e, G4, hd7, s7⟩ => ?_
        subst e
        have g7 := s7.get 0 _ (by omega) (s6.get 0 _ (by omega) (s5.get 0 _ (by omega) g4))
        refine wEs_nil (and_le rfl fun h8 g8 p8 => ?_)
        have g08 := pfx_get p8 g7
        refine wA_name <| onR_nx <| wB_cons <| wS_iff <| wT_not <| wT_val rfl <| wE_bi <| wEs_cons <| wE_lc <| wI_of <| wE_var rfl <| ok_itL g8 ?_
        have all4 : ∀ d ∈ [dP (chainP cs), dP P2, dP P3, dP P4], ∃ P, d = dP P ∧ GP P := by
          intro d hd
          simp only [List.mem_cons, List.not_mem_nil, or_false] at hd
          rcases hd with rfl | rfl | rfl | rfl
          · exact ⟨_, rfl, G1⟩
          · exact ⟨_, rfl, G2.gp (by decide) (by decide) (by decide)⟩
          · exact ⟨_, rfl, G3.gp (by decide) (by decide) (by decide)⟩
          · exact ⟨_, rfl, G4.gp (by decide) (by decide) (by decide)⟩
        refine wL_all (items := [dP (chainP cs), dP P2, dP P3, dP P4]) (inv := fun i acc h'' => acc = (List.replicate i true).map D.bl ∧ h''[h8.length]? = some (.lst acc) ∧ h8 <+: h'') ⟨rfl, new_get, pfx_new⟩ (fun i acc h'' ⟨_, _, p⟩ => turn_list (pfx_get p g8)) ?_ ?_
        · rintro i d acc h9 hi ⟨rfl, hN9, p9⟩
          obtain ⟨P, rfl, G⟩ := all4 d (List.mem_of_getElem? hi)
          have hi4 : i < 4 := (List.getElem?_eq_some_iff.mp hi).1
          refine wA_name ?_
          show wE tb 29 _ _ h9 _
          refine wE_call (wEs_cons (wE_var rfl (wEs_nil ?_)))
          refine wC_mono (right_ok (k := 25) G) fun r h10 ⟨e, p10⟩ => ?_
          subst e
          have hN10 := pfx_get p10 hN9
          refine ⟨hN10, by simp; show _ < 16777216; omega, ?_, set_get hN10, pfx_set (p9.trans p10) (Nat.le_refl _)⟩
          rw [List.replicate_succ', List.map_append]
          rfl
        · rintro acc h9 ⟨rfl, hN9, p9⟩
          refine wEs_nil (ok_all hN9 ?_)
          rw [show (List.replicate [dP (chainP cs), dP P2, dP P3, dP P4].length true).all id = true from rfl]
          have g9 := pfx_get p9 g08
          repeat' contradiction
          exact ⟨_, _, _, _, _, _, _, rfl, g9⟩
    · rintro ρ h' ⟨y1, y2, y3, y4, y5, y6, y7, rfl, g0⟩
      repeat' contradiction
      rfl
  obtain ⟨d, w, e, rfl⟩ := main
  exact ⟨w, e⟩
theorem says : Z.Says tb 30 19 63 := k02_says
end Lw
set_option maxHeartbeats 4000000
open PySem PySem.W PyProof.Rows
set_option maxHeartbeats 0 in
theorem PySem.Challenge.cw_renamesteps_k02_homes_and_enclosing_scop_holds : PySem.Challenge.rw_renamesteps_k02_homes_and_enclosing_scop.Holds := by
  w_on; o_law; k_head; (case hw => w_witness2)
  k_fill
  refine Z.walk_z (T := Lw.tb) (l := PySem.Challenge.rw_renamesteps_k02_homes_and_enclosing_scop) (k := 30) (i := 19) (x := "_law_script") (F := Lw.f19) Lw.tok rfl rfl rfl rfl rfl ⟨rfl, by decide, by decide⟩ (fun w h Y => PySem.W.kIn_of Y) Lw.says ?fc
  case fc =>
    intro p
    refine' ⟨⟨Z.fnK (x := "is_integer") (st := Lw.topS 6) ?a0 ?l0 ?c0 ?k0 (fun _ _ _ _ _ _ us hl => match us, hl with | [_, _, _], _ => rfl),
      Z.fnK (x := "outward") (st := Lw.topS 7) ?a1 ?l1 ?c1 ?k1 (fun _ _ _ _ _ _ us hl => match us, hl with | [_, _], _ => rfl),
      Z.fnK (x := "homes_of") (st := Lw.topS 8) ?a2 ?l2 ?c2 ?k2 (fun _ _ _ _ _ _ us hl => match us, hl with | [_], _ => rfl),
      Z.fnK (x := "check_declaration") (st := Lw.topS 9) ?a3 ?l3 ?c3 ?k3 (fun _ _ _ _ _ _ us hl => match us, hl with | [_, _], _ => rfl),
      Z.fnK (x := "check_scope") (st := Lw.topS 10) ?a4 ?l4 ?c4 ?k4 (fun _ _ _ _ _ _ us hl => match us, hl with | [_, _], _ => rfl),
      Z.fnK (x := "home_of") (st := Lw.topS 11) ?a5 ?l5 ?c5 ?k5 (fun _ _ _ _ _ _ us hl => match us, hl with | [_, _], _ => rfl),
      Z.fnK (x := "declarations_of") (st := Lw.topS 12) ?a6 ?l6 ?c6 ?k6 (fun _ _ _ _ _ _ us hl => match us, hl with | [_, _], _ => rfl),
      Z.fnK (x := "enclosing_scopes") (st := Lw.topS 13) ?a7 ?l7 ?c7 ?k7 (fun _ _ _ _ _ _ us hl => match us, hl with | [_, _], _ => rfl),
      Z.fnK (x := "inner_scopes") (st := Lw.topS 14) ?a8 ?l8 ?c8 ?k8 (fun _ _ _ _ _ _ us hl => match us, hl with | [_, _], _ => rfl),
      Z.fnK (x := "height_of") (st := Lw.topS 15) ?a9 ?l9 ?c9 ?k9 (fun _ _ _ _ _ _ us hl => match us, hl with | [_], _ => rfl),
      Z.fnK (x := "_law_hand") (st := Lw.topS 17) ?a10 ?l10 ?c10 ?k10 (fun _ _ _ _ _ _ us hl => match us, hl with | [_, _], _ => rfl),
      Z.fnK (x := "_law_take") (st := Lw.topS 18) ?a11 ?l11 ?c11 ?k11 (fun _ _ _ _ _ _ us hl => match us, hl with | [_, _], _ => rfl),
      Z.fnK (x := "_law_pick") (st := Lw.topS 19) ?a12 ?l12 ?c12 ?k12 (fun _ _ _ _ _ _ us hl => match us, hl with | [_, _], _ => rfl),
      Z.fnK (x := "_law_program") (st := Lw.topS 20) ?a13 ?l13 ?c13 ?k13 (fun _ _ _ _ _ _ us hl => match us, hl with | [_, _, _, _], _ => rfl),
      Z.fnK (x := "_law_home") (st := Lw.topS 21) ?a14 ?l14 ?c14 ?k14 (fun _ _ _ _ _ _ us hl => match us, hl with | [_, _], _ => rfl),
      Z.fnK (x := "_law_outward") (st := Lw.topS 22) ?a15 ?l15 ?c15 ?k15 (fun _ _ _ _ _ _ us hl => match us, hl with | [_, _], _ => rfl),
      Z.fnK (x := "_law_span") (st := Lw.topS 23) ?a16 ?l16 ?c16 ?k16 (fun _ _ _ _ _ _ us hl => match us, hl with | [_, _], _ => rfl),
      Z.fnK (x := "_law_depths") (st := Lw.topS 24) ?a17 ?l17 ?c17 ?k17 (fun _ _ _ _ _ _ us hl => match us, hl with | [_], _ => rfl),
      Z.fnK (x := "_law_right") (st := Lw.topS 25) ?a18 ?l18 ?c18 ?k18 (fun _ _ _ _ _ _ us hl => match us, hl with | [_], _ => rfl),
      Z.fnK (x := "law") (st := Lw.topS 26) ?a19 ?l19 ?c19 ?k19 (fun _ _ _ _ _ _ us hl => match us, hl with | [_], _ => rfl), trivial⟩, ⟨Z.coK_int ?o0, trivial⟩, ⟨?z0, ?z1, ?z2, ?z3, ?z4, ?z5, ?z6, ?z7, ?z8, ?z9, ?z10, ?z11, ?z12, ?z13, ?z14, ?z15, ?z16, ?z17, ?z18, ?z19, trivial⟩⟩
    (case a0 => k_is); (case l0 => k_is); (case c0 => k_is); (case k0 => k_is); (case a1 => k_is); (case l1 => k_is); (case c1 => k_is); (case k1 => k_is); (case a2 => k_is); (case l2 => k_is); (case c2 => k_is); (case k2 => k_is); (case a3 => k_is); (case l3 => k_is); (case c3 => k_is); (case k3 => k_is); (case a4 => k_is); (case l4 => k_is); (case c4 => k_is); (case k4 => k_is); (case a5 => k_is); (case l5 => k_is); (case c5 => k_is); (case k5 => k_is); (case a6 => k_is); (case l6 => k_is); (case c6 => k_is); (case k6 => k_is); (case a7 => k_is); (case l7 => k_is); (case c7 => k_is); (case k7 => k_is); (case a8 => k_is); (case l8 => k_is); (case c8 => k_is); (case k8 => k_is); (case a9 => k_is); (case l9 => k_is); (case c9 => k_is); (case k9 => k_is); (case a10 => k_is); (case l10 => k_is); (case c10 => k_is); (case k10 => k_is); (case a11 => k_is); (case l11 => k_is); (case c11 => k_is); (case k11 => k_is); (case a12 => k_is); (case l12 => k_is); (case c12 => k_is); (case k12 => k_is); (case a13 => k_is); (case l13 => k_is); (case c13 => k_is); (case k13 => k_is); (case a14 => k_is); (case l14 => k_is); (case c14 => k_is); (case k14 => k_is); (case a15 => k_is); (case l15 => k_is); (case c15 => k_is); (case k15 => k_is); (case a16 => k_is); (case l16 => k_is); (case c16 => k_is); (case k16 => k_is); (case a17 => k_is); (case l17 => k_is); (case c17 => k_is); (case k17 => k_is); (case a18 => k_is); (case l18 => k_is); (case c18 => k_is); (case k18 => k_is); (case a19 => k_is); (case l19 => k_is); (case c19 => k_is); (case k19 => k_is); (case o0 => k_is); (case z0 => k_is); (case z1 => k_is); (case z2 => k_is); (case z3 => k_is); (case z4 => k_is); (case z5 => k_is); (case z6 => k_is); (case z7 => k_is); (case z8 => k_is); (case z9 => k_is); (case z10 => k_is); (case z11 => k_is); (case z12 => k_is); (case z13 => k_is); (case z14 => k_is); (case z15 => k_is); (case z16 => k_is); (case z17 => k_is); (case z18 => k_is); (case z19 => k_is)
